/- Printed functions: laws_toPatternIns, laws_toPatternInsS. -/
import Derived.Test.YtcppdkdnpmgpmaaYEoP0
namespace Go.Proofs.Ytcppdkdnpmgpmaa.PFnExactEntryOf
open Go.RowKit Go.Proofs.YtcppdkdnpmgpmaaG Go.Proofs.YtcppdkdnpmgpmaaW.PrintWords Go.Proofs.YtcppdkdnpmgpmaaW.PrintLast Go.Proofs.YtcppdkdnpmgpmaaW.PrintMore
attribute [local go_sem] max2_int min2_int max_two min_two max_three min_three max_four min_four
set_option linter.unusedVariables false
set_option linter.unusedSimpArgs false
def laws_toPatternIns.f (a0_0:Int) (a0_1:Int) (a0_2:ByteArray):Option (Int×Int×ByteArray):=some (a0_0,a0_1,a0_2)
set_option maxHeartbeats 8000000 in
set_option maxRecDepth 100000 in
theorem laws_toPatternIns.calls (a0_0:Int) (a0_1:Int) (a0_2:ByteArray) (r1:Int) (r2:Int) (r3:ByteArray) (w:World) (h:laws_toPatternIns.f a0_0 a0_1 a0_2=some (r1,r2,r3)):
  Calls Try.prog 23 #[.agg #[.int .i64 a0_0,.int .i64 a0_1,.string a0_2]] w fun e w'=>e= .returned (.agg #[.int .i64 r1,.int .i64 r2,.string r3])∧Below w.heap.size w w':=by
 have q:=Try.underlying47
 have s:=Try.underlying55
 have HB:=zM (Below.refl w.heap.size w)
 have H:(some (a0_0,a0_1,a0_2))=some (r1,r2,r3):=h
 clear h
 simp only[Option.some.injEq,Prod.mk.injEq]at H
 obtain⟨rfl,rfl,rfl⟩:=H
 go_enter Try.func23,Try.ntmps23
 go_wp2_with (first|((with_reducible refine gate_dst (N:=1) rfl ?_);refine sV (N:=1) (cs:= #[.int .i64 a0_0,.int .i64 a0_1,.string a0_2]) (t:=47) ?_;intro u hg x hbox hb;have a:=zM (hbox);have y:=sG HB hg;have z:=sG HB hg;replace HB:=sB HB hb;clear hb hbox hg)|((with_reducible refine gate_dst (N:=2) rfl ?_);refine sV (N:=2) (cs:= #[.int .i64 0,.int .i64 0,.string (⟨#[]⟩:ByteArray)]) (t:=55) ?_;intro d hg A hbox hb;have b:=zM (hbox);have B:=sG HB hg;have D:=sG HB hg;replace HB:=sB HB hb;have g:=sN a hg;have i:=sM a hg;replace a:=sK a hb;clear hb hbox hg)|((with_reducible refine gate_dst (N:=3) rfl ?_);refine sV (N:=3) (cs:= #[.int .i64 0,.int .i64 0,.string (⟨#[]⟩:ByteArray)]) (t:=55) ?_;intro E hg F hbox hb;have l:=zM (hbox);have G:=sG HB hg;have I:=sG HB hg;replace HB:=sB HB hb;have m:=sN a hg;have n:=sM a hg;replace a:=sK a hb;have c:=sN b hg;have o:=sM b hg;replace b:=sK b hb;clear hb hbox hg;have J:=g.out;have K:=i.out;have L:=m.out;have M:=n.out;obtain⟨O,P,Q,S,T,U⟩:=cells3 a.out;have V:=o.out;have W:=c.out;obtain⟨X,Y,Z,aa,ab,ac⟩:=cells3 l.out;obtain⟨ad,ae,af,ag,ah,ai⟩:=cells3 b.out))
 refine bodyPost_ret (results_cell_row rfl _ _ d 55 #[.int .i64 a0_0,.int .i64 a0_1,.string a0_2] (0,0) _ rfl (by(with_reducible repeat(first|refine blk_drewN ?_ _|refine blk_drew ?_|refine blk_alloc ?_ _));refine blk_put (cs:= #[.int .i64 a0_0,.int .i64 a0_1,.string (⟨#[]⟩:ByteArray)]) ?_ 2 _ rfl;(with_reducible repeat(first|refine blk_drewN ?_ _|refine blk_drew ?_|refine blk_alloc ?_ _));refine blk_put (cs:= #[.int .i64 a0_0,.int .i64 0,.string (⟨#[]⟩:ByteArray)]) ?_ 1 _ rfl;(with_reducible repeat(first|refine blk_drewN ?_ _|refine blk_drew ?_|refine blk_alloc ?_ _));refine blk_put (cs:= #[.int .i64 0,.int .i64 0,.string (⟨#[]⟩:ByteArray)]) ?_ 0 _ rfl;(with_reducible repeat(first|refine blk_drewN ?_ _|refine blk_drew ?_|refine blk_alloc ?_ _));refine blk_far ?_ c.out _;(with_reducible repeat(first|refine blk_drewN ?_ _|refine blk_drew ?_|refine blk_alloc ?_ _));refine blk_far ?_ c.out _;(with_reducible repeat(first|refine blk_drewN ?_ _|refine blk_drew ?_|refine blk_alloc ?_ _));refine blk_far ?_ c.out _;exact sT b.out) Try.underlying55 rfl (by kernel_rfl)) rfl ?_
 exact⟨sq,sb⟩
def laws_toPatternInsS.l0 : Nat → List (S47) → List (S55) → Int → Option ((List (S55)))
 |0,_,_,_=>none
 |k+1,x0,x3,x4=>if x4<(x0.length:Int)then(if 0≤x4 then((laws_toPatternIns.f ((rd_T47 x0 x4).f0) ((rd_T47 x0 x4).f1) ((rd_T47 x0 x4).f2)).bind fun bt117=>(if x4<(x3.length:Int)then(laws_toPatternInsS.l0 k x0 (x3.set (x4:Int).toNat (⟨bt117.1,bt117.2.1,bt117.2.2⟩:S55)) (wrap64 (x4+1)))else(none)))else(none))else(some x3)
def laws_toPatternInsS.f (k:Nat) (l0:List (S47)):Option ((List (S55))):=if 0≤(l0.length:Int)then(if((l0.length:Int):Int).toNat≤8796093022208 then(laws_toPatternInsS.l0 k l0 (List.replicate ((l0.length:Int):Int).toNat z55) 0)else(none))else(none)
set_option maxHeartbeats 8000000 in
set_option maxRecDepth 100000 in
theorem laws_toPatternInsS.calls (k:Nat) (A0:Option Addr) (c0:Nat) (l0:List (S47)) (r:List (S55)) (w:World) (hr0:Kd.C k47 w A0 l0.length l0) (hc0:l0.length≤c0) (h:laws_toPatternInsS.f k l0=some r):
  Calls Try.prog 13 #[.slice A0 l0.length c0] w fun e w'=>∃Q:Value,e= .returned (Q)∧Kd.R k55 55 w' w.heap.size (fun _=>True) Q r∧Below w.heap.size w w':=by
 have aC:=Try.underlying47
 have aD:=Try.underlying55
 have aj:=zM hr0
 have aE:=zM hc0
 clear hr0 hc0
 have HB:=zM (Below.refl w.heap.size w)
 have H:(if 0≤(l0.length:Int)then(if((l0.length:Int):Int).toNat≤8796093022208 then(laws_toPatternInsS.l0 k l0 (List.replicate ((l0.length:Int):Int).toNat z55) 0)else(none))else(none))=some r:=h
 clear h
 by_cases o:0≤(l0.length:Int)
 ·(
 rw[if_pos o]at H
 have c2b0:=eq_true o
 have c2b1:=zT o
 clear o
 by_cases q:((l0.length:Int):Int).toNat≤8796093022208
 ·(
 rw[if_pos q]at H
 have c3b0:=eq_true q
 have c3b1:=zT q
 clear q
 obtain⟨y113,hy113⟩:∃G:List (S55),G=(List.replicate ((l0.length:Int):Int).toNat z55):=⟨_,rfl⟩
 replace H:(laws_toPatternInsS.l0 k l0 y113 0)=some r:=by first|(rw[hy113];with_reducible exact H)|(have i:=(Option.bind_some _ _).symm.trans H;rw[hy113];with_reducible exact i)|(have i:=(Option.bind_some _ _).symm.trans H;with_reducible exact i)|with_reducible exact H|(rw[hy113];exact H)|exact H
 have S:=zM hy113
 clear hy113
 have H':=zM H
 clear H
 go_enter Try.func13,Try.ntmps13
 go_wp2_with (first|((with_reducible refine gate_dst (N:=7) rfl ?_);refine Kd.R_make k55 _ 55 rfl (N:=7) rfl 29 _ _ rfl (l0.length:Int) rfl rfl Try.underlying29 (.agg #[(.int .i64 0),(.int .i64 0),(.string ⟨#[]⟩)]) 32 info55 rfl (by decide) (by omega) z55 (ok:=fun _=>True) (okp:=fun _=>True) (k55_mkM _ _ _ z55) (fun _ hk=>hk) trivial (zzA) (Nat.le_trans (Nat.mul_le_mul_right _ (zzA:(l0.length:Int).toNat≤8796093022208)) (by omega)) (Below.refl _ _) (Nat.le_refl _) ?_;intro ak w4 u hb al am;clear al am;(first|rw[←S.out]at u|(simp only[Int.reduceToNat]at u;rw[←S.out]at u));have an:=zM (Kd.R_lower u (below_size (sH HB.out)));replace HB:=sB HB hb;clear hb u))
 go_loopg [4] k (fun kq v4 w'=>∃(b:List (S55)) (a:Int),v4= .int .i64 a∧Aside0 (laws_toPatternInsS.l0 kq l0 b a=some r)∧Aside0 (kq≤k)∧Aside0 (Kd.R k55 55 w' w.heap.size (fun _=>True) ak b)∧Aside0 (Below w.heap.size w w'))
 case atStart=>exact⟨(y113),(0),sr,H',⟨Nat.le_refl _⟩,⟨by exact sE an.out⟩,⟨sb⟩⟩
 case round=>(
 clear H'
 try clear o
 try clear c2b0
 try clear c2b1
 try clear q
 try clear c3b0
 try clear c3b1
 obtain⟨b,a,rfl,HA,T,d,HB⟩:=hrel
 cases gk with
 |zero=>exact absurd HA.out (by simp[laws_toPatternInsS.l0])
 |succ k1=>(
 have H:=HA.out
 clear HA
 simp only[laws_toPatternInsS.l0]at H
 by_cases s:a<(l0.length:Int)
 ·(
 rw[if_pos s]at H
 have c6b0:=zT s
 clear s
 by_cases z:0≤a
 ·(
 rw[if_pos z]at H
 have c7b0:=zT z
 clear z
 replace H:=Option.bind_eq_some_iff.mp H
 obtain⟨⟨l,m,n⟩,U,H⟩:=H
 replace H:(if a<(b.length:Int)then(laws_toPatternInsS.l0 k1 l0 (b.set (a:Int).toNat (⟨l,m,n⟩:S55)) (wrap64 (a+1)))else(none))=some r:=H
 have A8:=zM U
 clear U
 by_cases A:a<(b.length:Int)
 ·(
 rw[if_pos A]at H
 have c9b0:=zT A
 clear A
 obtain⟨y120,hy120⟩:∃G:List (S55),G=(b.set (a:Int).toNat (⟨l,m,n⟩:S55)):=⟨_,rfl⟩
 replace H:(laws_toPatternInsS.l0 k1 l0 y120 (wrap64 (a+1)))=some r:=by first|(rw[hy120];with_reducible exact H)|(have i:=(Option.bind_some _ _).symm.trans H;rw[hy120];with_reducible exact i)|(have i:=(Option.bind_some _ _).symm.trans H;with_reducible exact i)|with_reducible exact H|(rw[hy120];exact H)|exact H
 have ao:=zM hy120
 clear hy120
 have H':=zM H
 clear H
 have I:0≤(a:Int):=zzA
 have J:a<(l0.length:Int):=zzA
 obtain⟨aF,ap,V,W,X⟩:=at_T47 aj.out a I J
 cases ap
 replace V:=sX HB V
 replace W:=sX HB W
 replace X:=sX HB X
 replace I:=eq_true I
 replace J:=eq_true J
 go_wp2_with (first|((with_reducible refine gate_callee (f:=23) rfl ?_);refine sC (some 20) Try.func23 #[.agg #[.int .i64 ((rd_T47 l0 a).f0),.int .i64 ((rd_T47 l0 a).f1),.string ((rd_T47 l0 a).f2)]] (laws_toPatternIns.calls ((rd_T47 l0 a).f0) ((rd_T47 l0 a).f1) ((rd_T47 l0 a).f2) l m n _ A8.out) ?_;rintro e g ⟨rfl,hb⟩;refine⟨_,rfl,?_⟩;replace d:=zM (Kd.R_below (sE d.out) hb);replace HB:=sB HB hb;(try clear hb);have K:0≤(a:Int):=zzA;have L:(a:Int)<((b.length:Int):Int):=zzA;obtain⟨c,Y,Z,aa,aq,aG,ab⟩:=Kd.R_form d.out (by omega);(first|cases Z|(injection Z with B ar au;(first|subst B|(injection B with B;subst B));subst au;clear ar));have M:=zM aa;have aH:=zM ab;clear aa aq ab;obtain⟨aI,av,ac,D,E⟩:=Kd.R_elem d.out z55 (a:Int) K L;obtain rfl:=k55_openM ac;have aJ:g.cell? ⟨c,(a:Int).toNat*3,none⟩=some (.int .i64 ((rd_T55 b a).f0)):=D 0 _ rfl;have aK:g.cell? ⟨c,(a:Int).toNat*3+1,none⟩=some (.int .i64 ((rd_T55 b a).f1)):=D 1 _ rfl;have aL:g.cell? ⟨c,(a:Int).toNat*3+2,none⟩=some (.string ((rd_T55 b a).f2)):=D 2 _ rfl;have aM:g.frozen? ⟨c,(a:Int).toNat*3,none⟩=false:=E 0;have aN:g.frozen? ⟨c,(a:Int).toNat*3+1,none⟩=false:=E 1;have aO:g.frozen? ⟨c,(a:Int).toNat*3+2,none⟩=false:=E 2;clear av D E ac;replace K:=eq_true K;replace L:=eq_true L;have ad:=zM (show Kd.R k55 55 g w.heap.size (fun _=>True) (.slice (some ⟨c,0,none⟩) b.length Y) b from(sE d.out));obtain⟨aP,ae,af,x,F⟩:=Kd.R_elem ad.out z55 (a:Int) (zzA) (by have y:(a:Int)<((b.length:Int):Int):=zzA;first|exact y|(have e_:=(Kd.R_reads' d.out).1;omega)|simpa using y);obtain rfl:=k55_openM af;have O:=Kd.R_seg ad.out (a:Int) (zzA) (by have y:(a:Int)<((b.length:Int):Int):=zzA;first|exact y|(have e_:=(Kd.R_reads' d.out).1;omega)|simpa using y) (seg:=[.int .i64 l,.int .i64 m,.string n]) (j:=0) ae x (show 3≤3 from by decide) (x':=(⟨l,m,n⟩:S55)) (k55_mkM _ _ _ (⟨l,m,n⟩:S55)) (fun _ hk=>hk);have aw:=x 0 _ rfl;(try simp only[show(k55).sz=3 from rfl,Nat.mul_one,Nat.add_zero]at aw);have ax:=F 0;(try simp only[show(k55).sz=3 from rfl,Nat.mul_one,Nat.add_zero]at ax);have ay:=x 1 _ rfl;(try simp only[show(k55).sz=3 from rfl,Nat.mul_one,Nat.add_zero]at ay);have az:=F 1;(try simp only[show(k55).sz=3 from rfl,Nat.mul_one,Nat.add_zero]at az);have aA:=x 2 _ rfl;(try simp only[show(k55).sz=3 from rfl,Nat.mul_one,Nat.add_zero]at aA);have aB:=F 2;(try simp only[show(k55).sz=3 from rfl,Nat.mul_one,Nat.add_zero]at aB);clear ae x F af)|((with_reducible refine gate_store (t:=55) (p:=21) rfl ?_);refine store_event (t:=55) (p:=21) (v:=?vo_w13) (w1:=(((g.setCell ⟨c,(a:Int).toNat*3,none⟩ (.int .i64 l)).setCell ⟨c,(a:Int).toNat*3+1,none⟩ (.int .i64 m)).setCell ⟨c,(a:Int).toNat*3+2,none⟩ (.string n))) ?hg ?ho ?hn ?hr ?_;(case ho=>rfl);(case hg=>rfl);(case hn=>rfl);(case hr=>first|(go_simp;done)|(go_simp;rfl));intro P hw;have hg:g.grownBy P (some c):=(by rw[hw];exact O.2);have ag:Kd.R k55 55 P w.heap.size (fun _=>True) (.slice (some ⟨c,0,none⟩) b.length Y) y120:=(by rw[hw,ao.out];exact O.1);clear O;have ah:=zM (ag);have ai:=zM ((by rw[hw];exact below_set (below_set (below_set (HB.out) M.out) M.out) M.out:Below w.heap.size w P));clear d;clear HB;have d:=ah;have HB:=ai;clear ah ai;clear hg hw ag))
 go_roundg k1
 case measure=>have:=T.out;omega
 case rel=>exact⟨(y120),(wrap64 (a+1)),sr,H',⟨by have:=T.out;omega⟩,⟨by exact sE d.out⟩,⟨sb⟩⟩)
 rw[if_neg A]at H
 exact absurd H (by simp))
 rw[if_neg z]at H
 exact absurd H (by simp))
 rw[if_neg s]at H
 have c6b0:=zF s
 clear s
 obtain rfl:=zI H
 go_wp2
 go_ret
 exact⟨_,sq,by exact sE d.out,sb⟩)))
 rw[if_neg q]at H
 exact absurd H (by simp))
 rw[if_neg o]at H
 exact absurd H (by simp)
end Go.Proofs.Ytcppdkdnpmgpmaa.PFnExactEntryOf
