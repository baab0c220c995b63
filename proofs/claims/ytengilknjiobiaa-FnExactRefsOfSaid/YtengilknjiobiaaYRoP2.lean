/- Printed functions: laws_toValue, laws_toValueS, laws_toObject. -/
import Derived.Test.YtengilknjiobiaaYRoP0
namespace Go.Proofs.Ytengilknjiobiaa.PFnExactRefsOf
open Go.RowKit Go.Proofs.YtengilknjiobiaaG Go.Proofs.YtengilknjiobiaaW.PrintWords Go.Proofs.YtengilknjiobiaaW.PrintLast Go.Proofs.YtengilknjiobiaaW.PrintMore
attribute [local go_sem] max2_int min2_int max_two min_two max_three min_three max_four min_four
set_option linter.unusedVariables false
set_option linter.unusedSimpArgs false
def laws_toValue.f (a0_0:Int) (a0_1:Int) (a0_2:ByteArray) (a0_3:Int):Option (Int×Int×ByteArray×Int):=some (a0_0,a0_1,a0_2,a0_3)
set_option maxHeartbeats 8000000 in
set_option maxRecDepth 100000 in
theorem laws_toValue.calls (a0_0:Int) (a0_1:Int) (a0_2:ByteArray) (a0_3:Int) (r1:Int) (r2:Int) (r3:ByteArray) (r4:Int) (w:World) (h:laws_toValue.f a0_0 a0_1 a0_2 a0_3=some (r1,r2,r3,r4)):
  Calls Try.prog 13 #[.agg #[.int .i64 a0_0,.int .i64 a0_1,.string a0_2,.int .i64 a0_3]] w fun e w'=>e= .returned (.agg #[.int .i64 r1,.int .i64 r2,.string r3,.int .i64 r4])∧Below w.heap.size w w':=by
 have u:=Try.underlying26
 have x:=Try.underlying29
 have HB:=zM (Below.refl w.heap.size w)
 have H:(some (a0_0,a0_1,a0_2,a0_3))=some (r1,r2,r3,r4):=h
 clear h
 simp only[Option.some.injEq,Prod.mk.injEq]at H
 obtain⟨rfl,rfl,rfl,rfl⟩:=H
 go_enter Try.func13,Try.ntmps13
 go_wp2_with (first|((with_reducible refine gate_dst (N:=1) rfl ?_);refine sV (N:=1) (cs:= #[.int .i64 a0_0,.int .i64 a0_1,.string a0_2,.int .i64 a0_3]) (t:=26) ?_;intro y hg z hbox hb;have a:=zM (hbox);have A:=sG HB hg;have B:=sG HB hg;replace HB:=sB HB hb;clear hb hbox hg)|((with_reducible refine gate_dst (N:=2) rfl ?_);refine sV (N:=2) (cs:= #[.int .i64 0,.int .i64 0,.string (⟨#[]⟩:ByteArray),.int .i64 0]) (t:=29) ?_;intro d hg D hbox hb;have b:=zM (hbox);have E:=sG HB hg;have F:=sG HB hg;replace HB:=sB HB hb;have i:=sN a hg;have l:=sM a hg;replace a:=sK a hb;clear hb hbox hg)|((with_reducible refine gate_dst (N:=3) rfl ?_);refine sV (N:=3) (cs:= #[.int .i64 0,.int .i64 0,.string (⟨#[]⟩:ByteArray),.int .i64 0]) (t:=29) ?_;intro G hg I hbox hb;have m:=zM (hbox);have J:=sG HB hg;have K:=sG HB hg;replace HB:=sB HB hb;have n:=sN a hg;have q:=sM a hg;replace a:=sK a hb;have c:=sN b hg;have s:=sM b hg;replace b:=sK b hb;clear hb hbox hg;have L:=i.out;have M:=l.out;have O:=n.out;have P:=q.out;obtain⟨Q,S,T,U,V,W,X,Y⟩:=cells4 a.out;have Z:=s.out;have aa:=c.out;obtain⟨ab,ac,ad,ae,af,ag,ah,ai⟩:=cells4 m.out;obtain⟨aj,ak,al,am,an,ao,ap,aq⟩:=cells4 b.out))
 refine bodyPost_ret (results_cell_row rfl _ _ d 29 #[.int .i64 a0_0,.int .i64 a0_1,.string a0_2,.int .i64 a0_3] (0,0) _ rfl (by(with_reducible repeat(first|refine blk_drewN ?_ _|refine blk_drew ?_|refine blk_alloc ?_ _));refine blk_put (cs:= #[.int .i64 a0_0,.int .i64 a0_1,.string a0_2,.int .i64 0]) ?_ 3 _ rfl;(with_reducible repeat(first|refine blk_drewN ?_ _|refine blk_drew ?_|refine blk_alloc ?_ _));refine blk_put (cs:= #[.int .i64 a0_0,.int .i64 a0_1,.string (⟨#[]⟩:ByteArray),.int .i64 0]) ?_ 2 _ rfl;(with_reducible repeat(first|refine blk_drewN ?_ _|refine blk_drew ?_|refine blk_alloc ?_ _));refine blk_put (cs:= #[.int .i64 a0_0,.int .i64 0,.string (⟨#[]⟩:ByteArray),.int .i64 0]) ?_ 1 _ rfl;(with_reducible repeat(first|refine blk_drewN ?_ _|refine blk_drew ?_|refine blk_alloc ?_ _));refine blk_put (cs:= #[.int .i64 0,.int .i64 0,.string (⟨#[]⟩:ByteArray),.int .i64 0]) ?_ 0 _ rfl;(with_reducible repeat(first|refine blk_drewN ?_ _|refine blk_drew ?_|refine blk_alloc ?_ _));refine blk_far ?_ c.out _;(with_reducible repeat(first|refine blk_drewN ?_ _|refine blk_drew ?_|refine blk_alloc ?_ _));refine blk_far ?_ c.out _;(with_reducible repeat(first|refine blk_drewN ?_ _|refine blk_drew ?_|refine blk_alloc ?_ _));refine blk_far ?_ c.out _;(with_reducible repeat(first|refine blk_drewN ?_ _|refine blk_drew ?_|refine blk_alloc ?_ _));refine blk_far ?_ c.out _;exact sT b.out) Try.underlying29 rfl (by kernel_rfl)) rfl ?_
 exact⟨sq,sb⟩
def laws_toValueS.l0 : Nat → List (S26) → List (S29) → Int → Option ((List (S29)))
 |0,_,_,_=>none
 |k+1,x0,x3,x4=>if x4<(x0.length:Int)then(if 0≤x4 then((laws_toValue.f ((rd_T26 x0 x4).f0) ((rd_T26 x0 x4).f1) ((rd_T26 x0 x4).f2) ((rd_T26 x0 x4).f3)).bind fun bt115=>(if x4<(x3.length:Int)then(laws_toValueS.l0 k x0 (x3.set (x4:Int).toNat (⟨bt115.1,bt115.2.1,bt115.2.2.1,bt115.2.2.2⟩:S29)) (wrap64 (x4+1)))else(none)))else(none))else(some x3)
def laws_toValueS.f (k:Nat) (l0:List (S26)):Option ((List (S29))):=if 0≤(l0.length:Int)then(if((l0.length:Int):Int).toNat≤7036874417766 then(laws_toValueS.l0 k l0 (List.replicate ((l0.length:Int):Int).toNat z29) 0)else(none))else(none)
set_option maxHeartbeats 8000000 in
set_option maxRecDepth 100000 in
theorem laws_toValueS.calls (k:Nat) (A0:Option Addr) (c0:Nat) (l0:List (S26)) (r:List (S29)) (w:World) (hr0:Kd.C k26 w A0 l0.length l0) (hc0:l0.length≤c0) (h:laws_toValueS.f k l0=some r):
  Calls Try.prog 36 #[.slice A0 l0.length c0] w fun e w'=>∃U:Value,e= .returned (U)∧Kd.R k29 29 w' w.heap.size (fun _=>True) U r∧Below w.heap.size w w':=by
 have aI:=Try.underlying26
 have aJ:=Try.underlying29
 have an:=zM hr0
 have aK:=zM hc0
 clear hr0 hc0
 have HB:=zM (Below.refl w.heap.size w)
 have H:(if 0≤(l0.length:Int)then(if((l0.length:Int):Int).toNat≤7036874417766 then(laws_toValueS.l0 k l0 (List.replicate ((l0.length:Int):Int).toNat z29) 0)else(none))else(none))=some r:=h
 clear h
 by_cases u:0≤(l0.length:Int)
 ·(
 rw[if_pos u]at H
 have c2b0:=eq_true u
 have c2b1:=zT u
 clear u
 by_cases x:((l0.length:Int):Int).toNat≤7036874417766
 ·(
 rw[if_pos x]at H
 have c3b0:=eq_true x
 have c3b1:=zT x
 clear x
 obtain⟨y111,hy111⟩:∃L:List (S29),L=(List.replicate ((l0.length:Int):Int).toNat z29):=⟨_,rfl⟩
 replace H:(laws_toValueS.l0 k l0 y111 0)=some r:=by first|(rw[hy111];with_reducible exact H)|(have l:=(Option.bind_some _ _).symm.trans H;rw[hy111];with_reducible exact l)|(have l:=(Option.bind_some _ _).symm.trans H;with_reducible exact l)|with_reducible exact H|(rw[hy111];exact H)|exact H
 have V:=zM hy111
 clear hy111
 have H':=zM H
 clear H
 go_enter Try.func36,Try.ntmps36
 go_wp2_with (first|((with_reducible refine gate_dst (N:=7) rfl ?_);refine Kd.R_make k29 _ 29 rfl (N:=7) rfl 43 _ _ rfl (l0.length:Int) rfl rfl Try.underlying43 (.agg #[(.int .i64 0),(.int .i64 0),(.string ⟨#[]⟩),(.int .i64 0)]) 40 info29 rfl (by decide) (by omega) z29 (ok:=fun _=>True) (okp:=fun _=>True) (k29_mkM _ _ _ z29) (fun _ hk=>hk) trivial (zzA) (Nat.le_trans (Nat.mul_le_mul_right _ (zzA:(l0.length:Int).toNat≤7036874417766)) (by omega)) (Below.refl _ _) (Nat.le_refl _) ?_;intro ao w4 A hb ap aq;clear ap aq;(first|rw[←V.out]at A|(simp only[Int.reduceToNat]at A;rw[←V.out]at A));have ar:=zM (Kd.R_lower A (below_size (sH HB.out)));replace HB:=sB HB hb;clear hb A))
 go_loopg [4] k (fun kq v4 w'=>∃(b:List (S29)) (a:Int),v4= .int .i64 a∧Aside0 (laws_toValueS.l0 kq l0 b a=some r)∧Aside0 (kq≤k)∧Aside0 (Kd.R k29 29 w' w.heap.size (fun _=>True) ao b)∧Aside0 (Below w.heap.size w w'))
 case atStart=>exact⟨(y111),(0),sr,H',⟨Nat.le_refl _⟩,⟨by exact sE ar.out⟩,⟨sb⟩⟩
 case round=>(
 clear H'
 try clear u
 try clear c2b0
 try clear c2b1
 try clear x
 try clear c3b0
 try clear c3b1
 obtain⟨b,a,rfl,HA,W,d,HB⟩:=hrel
 cases gk with
 |zero=>exact absurd HA.out (by simp[laws_toValueS.l0])
 |succ k1=>(
 have H:=HA.out
 clear HA
 simp only[laws_toValueS.l0]at H
 by_cases y:a<(l0.length:Int)
 ·(
 rw[if_pos y]at H
 have c6b0:=zT y
 clear y
 by_cases G:0≤a
 ·(
 rw[if_pos G]at H
 have c7b0:=zT G
 clear G
 replace H:=Option.bind_eq_some_iff.mp H
 obtain⟨⟨m,n,q,s⟩,X,H⟩:=H
 replace H:(if a<(b.length:Int)then(laws_toValueS.l0 k1 l0 (b.set (a:Int).toNat (⟨m,n,q,s⟩:S29)) (wrap64 (a+1)))else(none))=some r:=H
 have A8:=zM X
 clear X
 by_cases I:a<(b.length:Int)
 ·(
 rw[if_pos I]at H
 have c9b0:=zT I
 clear I
 obtain⟨y119,hy119⟩:∃L:List (S29),L=(b.set (a:Int).toNat (⟨m,n,q,s⟩:S29)):=⟨_,rfl⟩
 replace H:(laws_toValueS.l0 k1 l0 y119 (wrap64 (a+1)))=some r:=by first|(rw[hy119];with_reducible exact H)|(have l:=(Option.bind_some _ _).symm.trans H;rw[hy119];with_reducible exact l)|(have l:=(Option.bind_some _ _).symm.trans H;with_reducible exact l)|with_reducible exact H|(rw[hy119];exact H)|exact H
 have au:=zM hy119
 clear hy119
 have H':=zM H
 clear H
 have M:0≤(a:Int):=zzA
 have O:a<(l0.length:Int):=zzA
 obtain⟨aL,av,Y,Z,aa,ab⟩:=at_T26 an.out a M O
 cases av
 replace Y:=sX HB Y
 replace Z:=sX HB Z
 replace aa:=sX HB aa
 replace ab:=sX HB ab
 replace M:=eq_true M
 replace O:=eq_true O
 go_wp2_with (first|((with_reducible refine gate_callee (f:=13) rfl ?_);refine sC (some 20) Try.func13 #[.agg #[.int .i64 ((rd_T26 l0 a).f0),.int .i64 ((rd_T26 l0 a).f1),.string ((rd_T26 l0 a).f2),.int .i64 ((rd_T26 l0 a).f3)]] (laws_toValue.calls ((rd_T26 l0 a).f0) ((rd_T26 l0 a).f1) ((rd_T26 l0 a).f2) ((rd_T26 l0 a).f3) m n q s _ A8.out) ?_;rintro e i ⟨rfl,hb⟩;refine⟨_,rfl,?_⟩;replace d:=zM (Kd.R_below (sE d.out) hb);replace HB:=sB HB hb;(try clear hb);have P:0≤(a:Int):=zzA;have Q:(a:Int)<((b.length:Int):Int):=zzA;obtain⟨c,ac,ad,ae,aw,aM,af⟩:=Kd.R_form d.out (by omega);(first|cases ad|(injection ad with J ax ay;(first|subst J|(injection J with J;subst J));subst ay;clear ax));have K:=zM ae;have aN:=zM af;clear ae aw af;obtain⟨aO,az,ag,B,D⟩:=Kd.R_elem d.out z29 (a:Int) P Q;obtain rfl:=k29_openM ag;have aP:i.cell? ⟨c,(a:Int).toNat*4,none⟩=some (.int .i64 ((rd_T29 b a).f0)):=B 0 _ rfl;have aQ:i.cell? ⟨c,(a:Int).toNat*4+1,none⟩=some (.int .i64 ((rd_T29 b a).f1)):=B 1 _ rfl;have aR:i.cell? ⟨c,(a:Int).toNat*4+2,none⟩=some (.string ((rd_T29 b a).f2)):=B 2 _ rfl;have aS:i.cell? ⟨c,(a:Int).toNat*4+3,none⟩=some (.int .i64 ((rd_T29 b a).f3)):=B 3 _ rfl;have aT:i.frozen? ⟨c,(a:Int).toNat*4,none⟩=false:=D 0;have aU:i.frozen? ⟨c,(a:Int).toNat*4+1,none⟩=false:=D 1;have aV:i.frozen? ⟨c,(a:Int).toNat*4+2,none⟩=false:=D 2;have aW:i.frozen? ⟨c,(a:Int).toNat*4+3,none⟩=false:=D 3;clear az B D ag;replace P:=eq_true P;replace Q:=eq_true Q;have ah:=zM (show Kd.R k29 29 i w.heap.size (fun _=>True) (.slice (some ⟨c,0,none⟩) b.length ac) b from(sE d.out));obtain⟨aX,ai,aj,z,E⟩:=Kd.R_elem ah.out z29 (a:Int) (zzA) (by have F:(a:Int)<((b.length:Int):Int):=zzA;first|exact F|(have e_:=(Kd.R_reads' d.out).1;omega)|simpa using F);obtain rfl:=k29_openM aj;have S:=Kd.R_seg ah.out (a:Int) (zzA) (by have F:(a:Int)<((b.length:Int):Int):=zzA;first|exact F|(have e_:=(Kd.R_reads' d.out).1;omega)|simpa using F) (seg:=[.int .i64 m,.int .i64 n,.string q,.int .i64 s]) (j:=0) ai z (show 4≤4 from by decide) (x':=(⟨m,n,q,s⟩:S29)) (k29_mkM _ _ _ (⟨m,n,q,s⟩:S29)) (fun _ hk=>hk);have aA:=z 0 _ rfl;(try simp only[show(k29).sz=4 from rfl,Nat.mul_one,Nat.add_zero]at aA);have aB:=E 0;(try simp only[show(k29).sz=4 from rfl,Nat.mul_one,Nat.add_zero]at aB);have aC:=z 1 _ rfl;(try simp only[show(k29).sz=4 from rfl,Nat.mul_one,Nat.add_zero]at aC);have aD:=E 1;(try simp only[show(k29).sz=4 from rfl,Nat.mul_one,Nat.add_zero]at aD);have aE:=z 2 _ rfl;(try simp only[show(k29).sz=4 from rfl,Nat.mul_one,Nat.add_zero]at aE);have aF:=E 2;(try simp only[show(k29).sz=4 from rfl,Nat.mul_one,Nat.add_zero]at aF);have aG:=z 3 _ rfl;(try simp only[show(k29).sz=4 from rfl,Nat.mul_one,Nat.add_zero]at aG);have aH:=E 3;(try simp only[show(k29).sz=4 from rfl,Nat.mul_one,Nat.add_zero]at aH);clear ai z E aj)|((with_reducible refine gate_store (t:=29) (p:=21) rfl ?_);refine store_event (t:=29) (p:=21) (v:=?vo_w13) (w1:=((((i.setCell ⟨c,(a:Int).toNat*4,none⟩ (.int .i64 m)).setCell ⟨c,(a:Int).toNat*4+1,none⟩ (.int .i64 n)).setCell ⟨c,(a:Int).toNat*4+2,none⟩ (.string q)).setCell ⟨c,(a:Int).toNat*4+3,none⟩ (.int .i64 s))) ?hg ?ho ?hn ?hr ?_;(case ho=>rfl);(case hg=>rfl);(case hn=>rfl);(case hr=>first|(go_simp;done)|(go_simp;rfl));intro T hw;have hg:i.grownBy T (some c):=(by rw[hw];exact S.2);have ak:Kd.R k29 29 T w.heap.size (fun _=>True) (.slice (some ⟨c,0,none⟩) b.length ac) y119:=(by rw[hw,au.out];exact S.1);clear S;have al:=zM (ak);have am:=zM ((by rw[hw];exact below_set (below_set (below_set (below_set (HB.out) K.out) K.out) K.out) K.out:Below w.heap.size w T));clear d;clear HB;have d:=al;have HB:=am;clear al am;clear hg hw ak))
 go_roundg k1
 case measure=>have:=W.out;omega
 case rel=>exact⟨(y119),(wrap64 (a+1)),sr,H',⟨by have:=W.out;omega⟩,⟨by exact sE d.out⟩,⟨sb⟩⟩)
 rw[if_neg I]at H
 exact absurd H (by simp))
 rw[if_neg G]at H
 exact absurd H (by simp))
 rw[if_neg y]at H
 have c6b0:=zF y
 clear y
 obtain rfl:=zI H
 go_wp2
 go_ret
 exact⟨_,sq,by exact sE d.out,sb⟩)))
 rw[if_neg x]at H
 exact absurd H (by simp))
 rw[if_neg u]at H
 exact absurd H (by simp)
def laws_toObject.f (k:Nat) (a0_0:Int) (a0_1:Int) (a0_2:ByteArray) (a0_3:Int) (l0_4:List (S26)) (l0_5:List (S26)) (a0_6:Int) (a0_7:Int) (a0_8:ByteArray) (a0_9:Int):Option (Int×Int×ByteArray×Int×(List (S29))×(List (S29))×Int×Int×ByteArray×Int):=(laws_toValueS.f k l0_4).bind fun t123=>((laws_toValueS.f k l0_5).bind fun t126=>((laws_toValue.f a0_6 a0_7 a0_8 a0_9).bind fun bt129=>(some (a0_0,a0_1,a0_2,a0_3,t123,t126,bt129.1,bt129.2.1,bt129.2.2.1,bt129.2.2.2))))
set_option maxHeartbeats 8000000 in
set_option maxRecDepth 100000 in
theorem laws_toObject.calls (k:Nat) (a0_0:Int) (a0_1:Int) (a0_2:ByteArray) (a0_3:Int) (A0_4:Option Addr) (c0_4:Nat) (l0_4:List (S26)) (A0_5:Option Addr) (c0_5:Nat) (l0_5:List (S26)) (a0_6:Int) (a0_7:Int) (a0_8:ByteArray) (a0_9:Int) (r1:Int) (r2:Int) (r3:ByteArray) (r4:Int) (r5:List (S29)) (r6:List (S29)) (r7:Int) (r8:Int) (r9:ByteArray) (r10:Int) (w:World) (hr0_4:Kd.C k26 w A0_4 l0_4.length l0_4) (hc0_4:l0_4.length≤c0_4) (hr0_5:Kd.C k26 w A0_5 l0_5.length l0_5) (hc0_5:l0_5.length≤c0_5) (h:laws_toObject.f k a0_0 a0_1 a0_2 a0_3 l0_4 l0_5 a0_6 a0_7 a0_8 a0_9=some (r1,r2,r3,r4,r5,r6,r7,r8,r9,r10)):
  Calls Try.prog 27 #[.agg #[.int .i64 a0_0,.int .i64 a0_1,.string a0_2,.int .i64 a0_3,.slice A0_4 l0_4.length c0_4,.slice A0_5 l0_5.length c0_5,.int .i64 a0_6,.int .i64 a0_7,.string a0_8,.int .i64 a0_9]] w fun e w'=>∃v4_ v5_:Value,e= .returned (.agg #[.int .i64 r1,.int .i64 r2,.string r3,.int .i64 r4,v4_,v5_,.int .i64 r7,.int .i64 r8,.string r9,.int .i64 r10])∧Kd.R k29 29 w' w.heap.size (fun V=>some V≠(v5_:Value).ownBlock) v4_ r5∧Kd.R k29 29 w' w.heap.size (fun V=>some V≠(v4_:Value).ownBlock) v5_ r6∧Below w.heap.size w w':=by
 have ai:=Try.underlying51
 have aj:=Try.underlying56
 have ak:=Try.underlying26
 have al:=Try.underlying29
 have Y:=zM hr0_4
 have Z:=zM hc0_4
 clear hr0_4 hc0_4
 have aa:=zM hr0_5
 have ab:=zM hc0_5
 clear hr0_5 hc0_5
 have HB:=zM (Below.refl w.heap.size w)
 have H:((laws_toValueS.f k l0_4).bind fun d=>((laws_toValueS.f k l0_5).bind fun l=>((laws_toValue.f a0_6 a0_7 a0_8 a0_9).bind fun Q=>(some (a0_0,a0_1,a0_2,a0_3,d,l,Q.1,Q.2.1,Q.2.2.1,Q.2.2.2)))))=some (r1,r2,r3,r4,r5,r6,r7,r8,r9,r10):=h
 clear h
 obtain⟨d,A2,H⟩:=sO H
 obtain⟨l,A3,H⟩:=sO H
 replace H:=Option.bind_eq_some_iff.mp H
 obtain⟨⟨u,F,J,M⟩,X,H⟩:=H
 replace H:(some (a0_0,a0_1,a0_2,a0_3,d,l,u,F,J,M))=some (r1,r2,r3,r4,r5,r6,r7,r8,r9,r10):=H
 have A4:=zM X
 clear X
 simp only[Option.some.injEq,Prod.mk.injEq]at H
 obtain⟨rfl,rfl,rfl,rfl,rfl,rfl,rfl,rfl,rfl,rfl⟩:=H
 go_enter Try.func27,Try.ntmps27
 go_wp2_with (first|((with_reducible refine gate_dst (N:=1) rfl ?_);refine sV (N:=1) (cs:= #[.int .i64 a0_0,.int .i64 a0_1,.string a0_2,.int .i64 a0_3,.slice A0_4 l0_4.length c0_4,.slice A0_5 l0_5.length c0_5,.int .i64 a0_6,.int .i64 a0_7,.string a0_8,.int .i64 a0_9]) (t:=51) ?_;intro W hg w5 hbox hb;have a:=zM (hbox);have am:=sG HB hg;have S:=sG HB hg;replace HB:=sB HB hb;clear hb hbox hg)|((with_reducible refine gate_dst (N:=2) rfl ?_);refine sV (N:=2) (cs:= #[.int .i64 0,.int .i64 0,.string (⟨#[]⟩:ByteArray),.int .i64 0,.slice none 0 0,.slice none 0 0,.int .i64 0,.int .i64 0,.string (⟨#[]⟩:ByteArray),.int .i64 0]) (t:=56) ?_;intro K hg w6 hbox hb;have c:=zM (hbox);have an:=sG HB hg;have T:=sG HB hg;replace HB:=sB HB hb;have ac:=sN a hg;have ad:=sM a hg;replace a:=sK a hb;clear hb hbox hg)|((with_reducible refine gate_dst (N:=3) rfl ?_);refine sV (N:=3) (cs:= #[.int .i64 0,.int .i64 0,.string (⟨#[]⟩:ByteArray),.int .i64 0,.slice none 0 0,.slice none 0 0,.int .i64 0,.int .i64 0,.string (⟨#[]⟩:ByteArray),.int .i64 0]) (t:=56) ?_;intro i hg w7 hbox hb;have b:=zM (hbox);have ao:=sG HB hg;have U:=sG HB hg;replace HB:=sB HB hb;have G:=sN a hg;have ae:=sM a hg;replace a:=sK a hb;have m:=sN c hg;have af:=sM c hg;replace c:=sK c hb;clear hb hbox hg;have ap:=ac.out;have aq:=ad.out;have ar:=G.out;have au:=ae.out;obtain⟨av,aw,ax,ay,az,aA,aB,aC,aD,aE,aF,aG,aH,aI,aJ,aK,aL,aM,aN,aO⟩:=cells10 a.out;have aP:=af.out;have aQ:=m.out;obtain⟨aR,aS,aT,aU,aV,aW,aX,aY,aZ,a0,a1,a2,a3,a4,a5,a6,a7,a8,a9,ba⟩:=cells10 b.out)|((with_reducible refine gate_callee (f:=36) rfl ?_);refine sC (some 18) Try.func36 #[.slice A0_4 l0_4.length c0_4] (laws_toValueS.calls k _ _ l0_4 d _ ?side1 ?side2 A2.out) ?_;(case side1=>exact zC Y.out zzR);(case side2=>exact Z.out);rintro e bb ⟨bc,rfl,L,hb⟩;refine⟨_,rfl,?_⟩;have x:=zM (Kd.R_lower L (below_size zzR));have y:=zM (blk_below (g:=W) (o:= .cells #[.int .i64 a0_0,.int .i64 a0_1,.string a0_2,.int .i64 a0_3,.slice A0_4 l0_4.length c0_4,.slice A0_5 l0_5.length c0_5,.int .i64 a0_6,.int .i64 a0_7,.string a0_8,.int .i64 a0_9] 51 (0,0)) (by(with_reducible repeat(first|refine blk_drewN ?_ _|refine blk_drew ?_|refine blk_alloc ?_ _));refine blk_far ?_ G.out _;(with_reducible repeat(first|refine blk_drewN ?_ _|refine blk_drew ?_|refine blk_alloc ?_ _));refine blk_far ?_ G.out _;(with_reducible repeat(first|refine blk_drewN ?_ _|refine blk_drew ?_|refine blk_alloc ?_ _));refine blk_far ?_ G.out _;(with_reducible repeat(first|refine blk_drewN ?_ _|refine blk_drew ?_|refine blk_alloc ?_ _));refine blk_far ?_ G.out _;exact sT a.out) hb);have z:=zM (blk_below (g:=K) (o:= .cells #[.int .i64 0,.int .i64 0,.string (⟨#[]⟩:ByteArray),.int .i64 0,.slice none 0 0,.slice none 0 0,.int .i64 0,.int .i64 0,.string (⟨#[]⟩:ByteArray),.int .i64 0] 56 (0,0)) (by(with_reducible repeat(first|refine blk_drewN ?_ _|refine blk_drew ?_|refine blk_alloc ?_ _));refine blk_far ?_ m.out _;(with_reducible repeat(first|refine blk_drewN ?_ _|refine blk_drew ?_|refine blk_alloc ?_ _));refine blk_far ?_ m.out _;(with_reducible repeat(first|refine blk_drewN ?_ _|refine blk_drew ?_|refine blk_alloc ?_ _));refine blk_far ?_ m.out _;(with_reducible repeat(first|refine blk_drewN ?_ _|refine blk_drew ?_|refine blk_alloc ?_ _));refine blk_far ?_ m.out _;exact sT c.out) hb);have A:=zM (blk_below (g:=i) (o:= .cells #[.int .i64 a0_0,.int .i64 a0_1,.string a0_2,.int .i64 a0_3,.slice none 0 0,.slice none 0 0,.int .i64 0,.int .i64 0,.string (⟨#[]⟩:ByteArray),.int .i64 0] 56 (0,0)) (by(with_reducible repeat(first|refine blk_drewN ?_ _|refine blk_drew ?_|refine blk_alloc ?_ _));refine blk_put (cs:= #[.int .i64 a0_0,.int .i64 a0_1,.string a0_2,.int .i64 0,.slice none 0 0,.slice none 0 0,.int .i64 0,.int .i64 0,.string (⟨#[]⟩:ByteArray),.int .i64 0]) ?_ 3 _ rfl;(with_reducible repeat(first|refine blk_drewN ?_ _|refine blk_drew ?_|refine blk_alloc ?_ _));refine blk_put (cs:= #[.int .i64 a0_0,.int .i64 a0_1,.string (⟨#[]⟩:ByteArray),.int .i64 0,.slice none 0 0,.slice none 0 0,.int .i64 0,.int .i64 0,.string (⟨#[]⟩:ByteArray),.int .i64 0]) ?_ 2 _ rfl;(with_reducible repeat(first|refine blk_drewN ?_ _|refine blk_drew ?_|refine blk_alloc ?_ _));refine blk_put (cs:= #[.int .i64 a0_0,.int .i64 0,.string (⟨#[]⟩:ByteArray),.int .i64 0,.slice none 0 0,.slice none 0 0,.int .i64 0,.int .i64 0,.string (⟨#[]⟩:ByteArray),.int .i64 0]) ?_ 1 _ rfl;(with_reducible repeat(first|refine blk_drewN ?_ _|refine blk_drew ?_|refine blk_alloc ?_ _));refine blk_put (cs:= #[.int .i64 0,.int .i64 0,.string (⟨#[]⟩:ByteArray),.int .i64 0,.slice none 0 0,.slice none 0 0,.int .i64 0,.int .i64 0,.string (⟨#[]⟩:ByteArray),.int .i64 0]) ?_ 0 _ rfl;exact sT b.out) hb);have B:=sB HB hb;clear a;clear c;clear b;clear HB;have s:=x;have a:=y;have c:=z;have b:=A;have HB:=B;clear x y z A B;(try clear hb);(try clear L);obtain⟨n,q,ag⟩:=Kd.R_slice s.out;subst ag;obtain⟨bd,be,bf,bg,bh,bi,bj,bk,bl,bm,bn,bo,bp,bq,br,bs,bt,bu,bv,bw⟩:=cells10 b.out;obtain⟨bx,bz,bA,bB,bC,bD,bE,bF,bG,bH,bI,bJ,bK,bL,bM,bN,bO,bP,bQ,bR⟩:=cells10 a.out)|((with_reducible refine gate_callee (f:=36) rfl ?_);refine sC (some 22) Try.func36 #[.slice A0_5 l0_5.length c0_5] (laws_toValueS.calls k _ _ l0_5 l _ ?side1 ?side2 A3.out) ?_;(case side1=>exact zC aa.out zzR);(case side2=>exact ab.out);rintro e bS ⟨bT,rfl,L,hb⟩;refine⟨_,rfl,?_⟩;have x:=zM (Kd.R_elder' (by(with_reducible repeat(first|apply Kd.R_alloc|apply Kd.R_drewN|apply Kd.R_drew));exact(Kd.R_mono (Kd.R_far (p:=⟨i,4,none⟩) (Kd.R_types s.out b.out (by decide)) (fun _ hk=>hk.2) (.slice n d.length q)) (fun _ I=>I.1))) (Kd.R_base L) hb);have y:=zM (Kd.R_lower (Kd.R_new' L (Kd.R_lt (by(with_reducible repeat(first|apply Kd.R_alloc|apply Kd.R_drewN|apply Kd.R_drew));exact(Kd.R_mono (Kd.R_far (p:=⟨i,4,none⟩) (Kd.R_types s.out b.out (by decide)) (fun _ hk=>hk.2) (.slice n d.length q)) (fun _ I=>I.1))))) (below_size zzR));have z:=zM (blk_below (g:=W) (o:= .cells #[.int .i64 a0_0,.int .i64 a0_1,.string a0_2,.int .i64 a0_3,.slice A0_4 l0_4.length c0_4,.slice A0_5 l0_5.length c0_5,.int .i64 a0_6,.int .i64 a0_7,.string a0_8,.int .i64 a0_9] 51 (0,0)) (by(with_reducible repeat(first|refine blk_drewN ?_ _|refine blk_drew ?_|refine blk_alloc ?_ _));refine blk_far ?_ G.out _;exact sT a.out) hb);have A:=zM (blk_below (g:=K) (o:= .cells #[.int .i64 0,.int .i64 0,.string (⟨#[]⟩:ByteArray),.int .i64 0,.slice none 0 0,.slice none 0 0,.int .i64 0,.int .i64 0,.string (⟨#[]⟩:ByteArray),.int .i64 0] 56 (0,0)) (by(with_reducible repeat(first|refine blk_drewN ?_ _|refine blk_drew ?_|refine blk_alloc ?_ _));refine blk_far ?_ m.out _;exact sT c.out) hb);have B:=zM (blk_below (g:=i) (o:= .cells #[.int .i64 a0_0,.int .i64 a0_1,.string a0_2,.int .i64 a0_3,.slice n d.length q,.slice none 0 0,.int .i64 0,.int .i64 0,.string (⟨#[]⟩:ByteArray),.int .i64 0] 56 (0,0)) (by(with_reducible repeat(first|refine blk_drewN ?_ _|refine blk_drew ?_|refine blk_alloc ?_ _));refine blk_put (cs:= #[.int .i64 a0_0,.int .i64 a0_1,.string a0_2,.int .i64 a0_3,.slice none 0 0,.slice none 0 0,.int .i64 0,.int .i64 0,.string (⟨#[]⟩:ByteArray),.int .i64 0]) ?_ 4 _ rfl;exact sT b.out) hb);have O:=sB HB hb;clear s;clear a;clear c;clear b;clear HB;have s:=x;have P:=y;have a:=z;have c:=A;have b:=B;have HB:=O;clear x y z A B O;(try clear hb);(try clear hk);(try clear L);obtain⟨D,E,ah⟩:=Kd.R_slice P.out;subst ah;obtain⟨bU,bV,bW,bX,bY,bZ,b0,b1,b2,b3,b4,b5,b6,b7,b8,b9,ca,cb,cc,cd⟩:=cells10 b.out;obtain⟨ce,cf,cg,ch,ci,cj,ck,cl,cm,cn,co,cp,cq,cr,ct,cu,cv,cw,cx,cy⟩:=cells10 a.out)|((with_reducible refine gate_callee (f:=13) rfl ?_);refine sC (some 26) Try.func13 #[.agg #[.int .i64 a0_6,.int .i64 a0_7,.string a0_8,.int .i64 a0_9]] (laws_toValue.calls a0_6 a0_7 a0_8 a0_9 u F J M _ A4.out) ?_;rintro e cz ⟨rfl,hb⟩;refine⟨_,rfl,?_⟩;have x:=zM (Kd.R_below (by(with_reducible repeat(first|apply Kd.R_alloc|apply Kd.R_drewN|apply Kd.R_drew));exact(Kd.R_mono (Kd.R_far (p:=⟨i,5,none⟩) (Kd.R_types s.out b.out (by decide)) (fun _ hk=>hk.2) (.slice D l.length E)) (fun _ I=>I.1))) hb);have y:=zM (Kd.R_below (by(with_reducible repeat(first|apply Kd.R_alloc|apply Kd.R_drewN|apply Kd.R_drew));exact(Kd.R_mono (Kd.R_far (p:=⟨i,5,none⟩) (Kd.R_types P.out b.out (by decide)) (fun _ hk=>hk.2) (.slice D l.length E)) (fun _ I=>I.1))) hb);have z:=zM (blk_below (g:=W) (o:= .cells #[.int .i64 a0_0,.int .i64 a0_1,.string a0_2,.int .i64 a0_3,.slice A0_4 l0_4.length c0_4,.slice A0_5 l0_5.length c0_5,.int .i64 a0_6,.int .i64 a0_7,.string a0_8,.int .i64 a0_9] 51 (0,0)) (by(with_reducible repeat(first|refine blk_drewN ?_ _|refine blk_drew ?_|refine blk_alloc ?_ _));refine blk_far ?_ G.out _;exact sT a.out) hb);have A:=zM (blk_below (g:=K) (o:= .cells #[.int .i64 0,.int .i64 0,.string (⟨#[]⟩:ByteArray),.int .i64 0,.slice none 0 0,.slice none 0 0,.int .i64 0,.int .i64 0,.string (⟨#[]⟩:ByteArray),.int .i64 0] 56 (0,0)) (by(with_reducible repeat(first|refine blk_drewN ?_ _|refine blk_drew ?_|refine blk_alloc ?_ _));refine blk_far ?_ m.out _;exact sT c.out) hb);have B:=zM (blk_below (g:=i) (o:= .cells #[.int .i64 a0_0,.int .i64 a0_1,.string a0_2,.int .i64 a0_3,.slice n d.length q,.slice D l.length E,.int .i64 0,.int .i64 0,.string (⟨#[]⟩:ByteArray),.int .i64 0] 56 (0,0)) (by(with_reducible repeat(first|refine blk_drewN ?_ _|refine blk_drew ?_|refine blk_alloc ?_ _));refine blk_put (cs:= #[.int .i64 a0_0,.int .i64 a0_1,.string a0_2,.int .i64 a0_3,.slice n d.length q,.slice none 0 0,.int .i64 0,.int .i64 0,.string (⟨#[]⟩:ByteArray),.int .i64 0]) ?_ 5 _ rfl;exact sT b.out) hb);have O:=sB HB hb;clear s;clear P;clear a;clear c;clear b;clear HB;have s:=x;have P:=y;have a:=z;have c:=A;have b:=B;have HB:=O;clear x y z A B O;(try clear hb);(try clear hk);obtain⟨cA,cB,cC,cD,cE,cF,cG,cH,cI,cJ,cK,cL,cM,cN,cO,cP,cQ,cR,cS,cT⟩:=cells10 b.out;obtain⟨cU,cV,cW,cX,cY,cZ,c1,c4,c5,c8,da,db,dc,dd,de,df,dg,dh,di,dj⟩:=cells10 c.out))
 refine bodyPost_ret (results_cell_row rfl _ _ K 56 #[.int .i64 a0_0,.int .i64 a0_1,.string a0_2,.int .i64 a0_3,.slice n d.length q,.slice D l.length E,.int .i64 u,.int .i64 F,.string J,.int .i64 M] (0,0) _ rfl (by(with_reducible repeat(first|refine blk_drewN ?_ _|refine blk_drew ?_|refine blk_alloc ?_ _));refine blk_put (cs:= #[.int .i64 a0_0,.int .i64 a0_1,.string a0_2,.int .i64 a0_3,.slice n d.length q,.slice D l.length E,.int .i64 u,.int .i64 F,.string J,.int .i64 0]) ?_ 9 _ rfl;(with_reducible repeat(first|refine blk_drewN ?_ _|refine blk_drew ?_|refine blk_alloc ?_ _));refine blk_put (cs:= #[.int .i64 a0_0,.int .i64 a0_1,.string a0_2,.int .i64 a0_3,.slice n d.length q,.slice D l.length E,.int .i64 u,.int .i64 F,.string (⟨#[]⟩:ByteArray),.int .i64 0]) ?_ 8 _ rfl;(with_reducible repeat(first|refine blk_drewN ?_ _|refine blk_drew ?_|refine blk_alloc ?_ _));refine blk_put (cs:= #[.int .i64 a0_0,.int .i64 a0_1,.string a0_2,.int .i64 a0_3,.slice n d.length q,.slice D l.length E,.int .i64 u,.int .i64 0,.string (⟨#[]⟩:ByteArray),.int .i64 0]) ?_ 7 _ rfl;(with_reducible repeat(first|refine blk_drewN ?_ _|refine blk_drew ?_|refine blk_alloc ?_ _));refine blk_put (cs:= #[.int .i64 a0_0,.int .i64 a0_1,.string a0_2,.int .i64 a0_3,.slice n d.length q,.slice D l.length E,.int .i64 0,.int .i64 0,.string (⟨#[]⟩:ByteArray),.int .i64 0]) ?_ 6 _ rfl;(with_reducible repeat(first|refine blk_drewN ?_ _|refine blk_drew ?_|refine blk_alloc ?_ _));refine blk_put (cs:= #[.int .i64 a0_0,.int .i64 a0_1,.string a0_2,.int .i64 a0_3,.slice n d.length q,.slice none 0 0,.int .i64 0,.int .i64 0,.string (⟨#[]⟩:ByteArray),.int .i64 0]) ?_ 5 _ rfl;(with_reducible repeat(first|refine blk_drewN ?_ _|refine blk_drew ?_|refine blk_alloc ?_ _));refine blk_put (cs:= #[.int .i64 a0_0,.int .i64 a0_1,.string a0_2,.int .i64 a0_3,.slice none 0 0,.slice none 0 0,.int .i64 0,.int .i64 0,.string (⟨#[]⟩:ByteArray),.int .i64 0]) ?_ 4 _ rfl;(with_reducible repeat(first|refine blk_drewN ?_ _|refine blk_drew ?_|refine blk_alloc ?_ _));refine blk_put (cs:= #[.int .i64 a0_0,.int .i64 a0_1,.string a0_2,.int .i64 0,.slice none 0 0,.slice none 0 0,.int .i64 0,.int .i64 0,.string (⟨#[]⟩:ByteArray),.int .i64 0]) ?_ 3 _ rfl;(with_reducible repeat(first|refine blk_drewN ?_ _|refine blk_drew ?_|refine blk_alloc ?_ _));refine blk_put (cs:= #[.int .i64 a0_0,.int .i64 a0_1,.string (⟨#[]⟩:ByteArray),.int .i64 0,.slice none 0 0,.slice none 0 0,.int .i64 0,.int .i64 0,.string (⟨#[]⟩:ByteArray),.int .i64 0]) ?_ 2 _ rfl;(with_reducible repeat(first|refine blk_drewN ?_ _|refine blk_drew ?_|refine blk_alloc ?_ _));refine blk_put (cs:= #[.int .i64 a0_0,.int .i64 0,.string (⟨#[]⟩:ByteArray),.int .i64 0,.slice none 0 0,.slice none 0 0,.int .i64 0,.int .i64 0,.string (⟨#[]⟩:ByteArray),.int .i64 0]) ?_ 1 _ rfl;(with_reducible repeat(first|refine blk_drewN ?_ _|refine blk_drew ?_|refine blk_alloc ?_ _));refine blk_put (cs:= #[.int .i64 0,.int .i64 0,.string (⟨#[]⟩:ByteArray),.int .i64 0,.slice none 0 0,.slice none 0 0,.int .i64 0,.int .i64 0,.string (⟨#[]⟩:ByteArray),.int .i64 0]) ?_ 0 _ rfl;(with_reducible repeat(first|refine blk_drewN ?_ _|refine blk_drew ?_|refine blk_alloc ?_ _));refine blk_far ?_ m.out _;(with_reducible repeat(first|refine blk_drewN ?_ _|refine blk_drew ?_|refine blk_alloc ?_ _));refine blk_far ?_ m.out _;(with_reducible repeat(first|refine blk_drewN ?_ _|refine blk_drew ?_|refine blk_alloc ?_ _));refine blk_far ?_ m.out _;(with_reducible repeat(first|refine blk_drewN ?_ _|refine blk_drew ?_|refine blk_alloc ?_ _));refine blk_far ?_ m.out _;exact sT c.out) Try.underlying56 rfl (by kernel_rfl)) rfl ?_
 exact⟨_,_,sq,by(with_reducible repeat(first|apply Kd.R_alloc|apply Kd.R_drewN|apply Kd.R_drew));exact Kd.R_mono (sRF10 (g:=K) (Kd.R_far (p:=⟨i,9,none⟩) (Kd.R_far (p:=⟨i,8,none⟩) (Kd.R_far (p:=⟨i,7,none⟩) (Kd.R_far (p:=⟨i,6,none⟩) (Kd.R_types (Kd.R_types s.out b.out (by decide)) c.out (by decide)) (fun _ hk=>hk.1.2) (.int .i64 u)) (fun _ hk=>hk.1.2) (.int .i64 F)) (fun _ hk=>hk.1.2) (.string J)) (fun _ hk=>hk.1.2) (.int .i64 M)) (fun _ hk=>hk.2)) (fun _ hk=>hk.1.1.2),by(with_reducible repeat(first|apply Kd.R_alloc|apply Kd.R_drewN|apply Kd.R_drew));exact Kd.R_mono (sRF10 (g:=K) (Kd.R_far (p:=⟨i,9,none⟩) (Kd.R_far (p:=⟨i,8,none⟩) (Kd.R_far (p:=⟨i,7,none⟩) (Kd.R_far (p:=⟨i,6,none⟩) (Kd.R_types (Kd.R_types P.out b.out (by decide)) c.out (by decide)) (fun _ hk=>hk.1.2) (.int .i64 u)) (fun _ hk=>hk.1.2) (.int .i64 F)) (fun _ hk=>hk.1.2) (.string J)) (fun _ hk=>hk.1.2) (.int .i64 M)) (fun _ hk=>hk.2)) (fun _ hk=>hk.1.1.2),sb⟩
end Go.Proofs.Ytengilknjiobiaa.PFnExactRefsOf
