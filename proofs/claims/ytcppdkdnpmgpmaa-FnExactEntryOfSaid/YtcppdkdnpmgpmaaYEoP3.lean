/- Printed functions: laws_toPatternEntry, laws_toPatternEntryS. -/
import Derived.Test.YtcppdkdnpmgpmaaYEoP0
namespace Go.Proofs.Ytcppdkdnpmgpmaa.PFnExactEntryOf
open Go.RowKit Go.Proofs.YtcppdkdnpmgpmaaG Go.Proofs.YtcppdkdnpmgpmaaW.PrintWords Go.Proofs.YtcppdkdnpmgpmaaW.PrintLast Go.Proofs.YtcppdkdnpmgpmaaW.PrintMore
attribute [local go_sem] max2_int min2_int max_two min_two max_three min_three max_four min_four
set_option linter.unusedVariables false
set_option linter.unusedSimpArgs false
def laws_toPatternEntry.f (a0_0:ByteArray) (a0_1:Int):Option (ByteArray×Int):=some (a0_0,a0_1)
set_option maxHeartbeats 8000000 in
set_option maxRecDepth 100000 in
theorem laws_toPatternEntry.calls (a0_0:ByteArray) (a0_1:Int) (r1:ByteArray) (r2:Int) (w:World) (h:laws_toPatternEntry.f a0_0 a0_1=some (r1,r2)):
  Calls Try.prog 24 #[.agg #[.string a0_0,.int .i64 a0_1]] w fun e w'=>e= .returned (.agg #[.string r1,.int .i64 r2])∧Below w.heap.size w w':=by
 have q:=Try.underlying50
 have s:=Try.underlying51
 have HB:=zM (Below.refl w.heap.size w)
 have H:(some (a0_0,a0_1))=some (r1,r2):=h
 clear h
 simp only[Option.some.injEq,Prod.mk.injEq]at H
 obtain⟨rfl,rfl⟩:=H
 go_enter Try.func24,Try.ntmps24
 go_wp2_with (first|((with_reducible refine gate_dst (N:=1) rfl ?_);refine sV (N:=1) (cs:= #[.string a0_0,.int .i64 a0_1]) (t:=50) ?_;intro u hg x hbox hb;have a:=zM (hbox);have y:=sG HB hg;have z:=sG HB hg;replace HB:=sB HB hb;clear hb hbox hg)|((with_reducible refine gate_dst (N:=2) rfl ?_);refine sV (N:=2) (cs:= #[.string (⟨#[]⟩:ByteArray),.int .i64 0]) (t:=51) ?_;intro d hg A hbox hb;have b:=zM (hbox);have B:=sG HB hg;have D:=sG HB hg;replace HB:=sB HB hb;have g:=sN a hg;have i:=sM a hg;replace a:=sK a hb;clear hb hbox hg)|((with_reducible refine gate_dst (N:=3) rfl ?_);refine sV (N:=3) (cs:= #[.string (⟨#[]⟩:ByteArray),.int .i64 0]) (t:=51) ?_;intro E hg F hbox hb;have l:=zM (hbox);have G:=sG HB hg;have I:=sG HB hg;replace HB:=sB HB hb;have m:=sN a hg;have n:=sM a hg;replace a:=sK a hb;have c:=sN b hg;have o:=sM b hg;replace b:=sK b hb;clear hb hbox hg;have J:=g.out;have K:=i.out;have L:=m.out;have M:=n.out;obtain⟨O,P,Q,S⟩:=cells2 a.out;have T:=o.out;have U:=c.out;obtain⟨V,W,X,Y⟩:=cells2 l.out;obtain⟨Z,aa,ab,ac⟩:=cells2 b.out))
 refine bodyPost_ret (results_cell_row rfl _ _ d 51 #[.string a0_0,.int .i64 a0_1] (0,0) _ rfl (by(with_reducible repeat(first|refine blk_drewN ?_ _|refine blk_drew ?_|refine blk_alloc ?_ _));refine blk_put (cs:= #[.string a0_0,.int .i64 0]) ?_ 1 _ rfl;(with_reducible repeat(first|refine blk_drewN ?_ _|refine blk_drew ?_|refine blk_alloc ?_ _));refine blk_put (cs:= #[.string (⟨#[]⟩:ByteArray),.int .i64 0]) ?_ 0 _ rfl;(with_reducible repeat(first|refine blk_drewN ?_ _|refine blk_drew ?_|refine blk_alloc ?_ _));refine blk_far ?_ c.out _;(with_reducible repeat(first|refine blk_drewN ?_ _|refine blk_drew ?_|refine blk_alloc ?_ _));refine blk_far ?_ c.out _;exact sT b.out) Try.underlying51 rfl (by kernel_rfl)) rfl ?_
 exact⟨sq,sb⟩
def laws_toPatternEntryS.l0 : Nat → List (S50) → List (S51) → Int → Option ((List (S51)))
 |0,_,_,_=>none
 |k+1,x0,x3,x4=>if x4<(x0.length:Int)then(if 0≤x4 then((laws_toPatternEntry.f ((rd_T50 x0 x4).f0) ((rd_T50 x0 x4).f1)).bind fun bt128=>(if x4<(x3.length:Int)then(laws_toPatternEntryS.l0 k x0 (x3.set (x4:Int).toNat (⟨bt128.1,bt128.2⟩:S51)) (wrap64 (x4+1)))else(none)))else(none))else(some x3)
def laws_toPatternEntryS.f (k:Nat) (l0:List (S50)):Option ((List (S51))):=if 0≤(l0.length:Int)then(if((l0.length:Int):Int).toNat≤11728124029610 then(laws_toPatternEntryS.l0 k l0 (List.replicate ((l0.length:Int):Int).toNat z51) 0)else(none))else(none)
set_option maxHeartbeats 8000000 in
set_option maxRecDepth 100000 in
theorem laws_toPatternEntryS.calls (k:Nat) (A0:Option Addr) (c0:Nat) (l0:List (S50)) (r:List (S51)) (w:World) (hr0:Kd.C k50 w A0 l0.length l0) (hc0:l0.length≤c0) (h:laws_toPatternEntryS.f k l0=some r):
  Calls Try.prog 14 #[.slice A0 l0.length c0] w fun e w'=>∃O:Value,e= .returned (O)∧Kd.R k51 51 w' w.heap.size (fun _=>True) O r∧Below w.heap.size w w':=by
 have ay:=Try.underlying50
 have az:=Try.underlying51
 have ah:=zM hr0
 have aA:=zM hc0
 clear hr0 hc0
 have HB:=zM (Below.refl w.heap.size w)
 have H:(if 0≤(l0.length:Int)then(if((l0.length:Int):Int).toNat≤11728124029610 then(laws_toPatternEntryS.l0 k l0 (List.replicate ((l0.length:Int):Int).toNat z51) 0)else(none))else(none))=some r:=h
 clear h
 by_cases n:0≤(l0.length:Int)
 ·(
 rw[if_pos n]at H
 have c2b0:=eq_true n
 have c2b1:=zT n
 clear n
 by_cases o:((l0.length:Int):Int).toNat≤11728124029610
 ·(
 rw[if_pos o]at H
 have c3b0:=eq_true o
 have c3b1:=zT o
 clear o
 obtain⟨y124,hy124⟩:∃B:List (S51),B=(List.replicate ((l0.length:Int):Int).toNat z51):=⟨_,rfl⟩
 replace H:(laws_toPatternEntryS.l0 k l0 y124 0)=some r:=by first|(rw[hy124];with_reducible exact H)|(have g:=(Option.bind_some _ _).symm.trans H;rw[hy124];with_reducible exact g)|(have g:=(Option.bind_some _ _).symm.trans H;with_reducible exact g)|with_reducible exact H|(rw[hy124];exact H)|exact H
 have P:=zM hy124
 clear hy124
 have H':=zM H
 clear H
 go_enter Try.func14,Try.ntmps14
 go_wp2_with (first|((with_reducible refine gate_dst (N:=7) rfl ?_);refine Kd.R_make k51 _ 51 rfl (N:=7) rfl 30 _ _ rfl (l0.length:Int) rfl rfl Try.underlying30 (.agg #[(.string ⟨#[]⟩),(.int .i64 0)]) 24 info51 rfl (by decide) (by omega) z51 (ok:=fun _=>True) (okp:=fun _=>True) (k51_mkM _ _ _ z51) (fun _ hk=>hk) trivial (zzA) (Nat.le_trans (Nat.mul_le_mul_right _ (zzA:(l0.length:Int).toNat≤11728124029610)) (by omega)) (Below.refl _ _) (Nat.le_refl _) ?_;intro ai w4 s hb aj ak;clear aj ak;(first|rw[←P.out]at s|(simp only[Int.reduceToNat]at s;rw[←P.out]at s));have al:=zM (Kd.R_lower s (below_size (sH HB.out)));replace HB:=sB HB hb;clear hb s))
 go_loopg [4] k (fun kq v4 w'=>∃(b:List (S51)) (a:Int),v4= .int .i64 a∧Aside0 (laws_toPatternEntryS.l0 kq l0 b a=some r)∧Aside0 (kq≤k)∧Aside0 (Kd.R k51 51 w' w.heap.size (fun _=>True) ai b)∧Aside0 (Below w.heap.size w w'))
 case atStart=>exact⟨(y124),(0),sr,H',⟨Nat.le_refl _⟩,⟨by exact sE al.out⟩,⟨sb⟩⟩
 case round=>(
 clear H'
 try clear n
 try clear c2b0
 try clear c2b1
 try clear o
 try clear c3b0
 try clear c3b1
 obtain⟨b,a,rfl,HA,Q,c,HB⟩:=hrel
 cases gk with
 |zero=>exact absurd HA.out (by simp[laws_toPatternEntryS.l0])
 |succ k1=>(
 have H:=HA.out
 clear HA
 simp only[laws_toPatternEntryS.l0]at H
 by_cases q:a<(l0.length:Int)
 ·(
 rw[if_pos q]at H
 have c6b0:=zT q
 clear q
 by_cases x:0≤a
 ·(
 rw[if_pos x]at H
 have c7b0:=zT x
 clear x
 replace H:=Option.bind_eq_some_iff.mp H
 obtain⟨⟨i,l⟩,S,H⟩:=H
 replace H:(if a<(b.length:Int)then(laws_toPatternEntryS.l0 k1 l0 (b.set (a:Int).toNat (⟨i,l⟩:S51)) (wrap64 (a+1)))else(none))=some r:=H
 have A8:=zM S
 clear S
 by_cases y:a<(b.length:Int)
 ·(
 rw[if_pos y]at H
 have c9b0:=zT y
 clear y
 obtain⟨y130,hy130⟩:∃B:List (S51),B=(b.set (a:Int).toNat (⟨i,l⟩:S51)):=⟨_,rfl⟩
 replace H:(laws_toPatternEntryS.l0 k1 l0 y130 (wrap64 (a+1)))=some r:=by first|(rw[hy130];with_reducible exact H)|(have g:=(Option.bind_some _ _).symm.trans H;rw[hy130];with_reducible exact g)|(have g:=(Option.bind_some _ _).symm.trans H;with_reducible exact g)|with_reducible exact H|(rw[hy130];exact H)|exact H
 have am:=zM hy130
 clear hy130
 have H':=zM H
 clear H
 have D:0≤(a:Int):=zzA
 have E:a<(l0.length:Int):=zzA
 obtain⟨aB,an,T,U⟩:=at_T50 ah.out a D E
 cases an
 replace T:=sX HB T
 replace U:=sX HB U
 replace D:=eq_true D
 replace E:=eq_true E
 go_wp2_with (first|((with_reducible refine gate_callee (f:=24) rfl ?_);refine sC (some 20) Try.func24 #[.agg #[.string ((rd_T50 l0 a).f0),.int .i64 ((rd_T50 l0 a).f1)]] (laws_toPatternEntry.calls ((rd_T50 l0 a).f0) ((rd_T50 l0 a).f1) i l _ A8.out) ?_;rintro e m ⟨rfl,hb⟩;refine⟨_,rfl,?_⟩;replace c:=zM (Kd.R_below (sE c.out) hb);replace HB:=sB HB hb;(try clear hb);have F:0≤(a:Int):=zzA;have G:(a:Int)<((b.length:Int):Int):=zzA;obtain⟨d,V,W,X,ao,aC,Y⟩:=Kd.R_form c.out (by omega);(first|cases W|(injection W with z ap aq;(first|subst z|(injection z with z;subst z));subst aq;clear ap));have Z:=zM X;have aD:=zM Y;clear X ao Y;obtain⟨aE,ar,aa,I,J⟩:=Kd.R_elem c.out z51 (a:Int) F G;obtain rfl:=k51_openM aa;have aF:m.cell? ⟨d,(a:Int).toNat*2,none⟩=some (.string ((rd_T51 b a).f0)):=I 0 _ rfl;have aG:m.cell? ⟨d,(a:Int).toNat*2+1,none⟩=some (.int .i64 ((rd_T51 b a).f1)):=I 1 _ rfl;have aH:m.frozen? ⟨d,(a:Int).toNat*2,none⟩=false:=J 0;have aI:m.frozen? ⟨d,(a:Int).toNat*2+1,none⟩=false:=J 1;clear ar I J aa;replace F:=eq_true F;replace G:=eq_true G;have ab:=zM (show Kd.R k51 51 m w.heap.size (fun _=>True) (.slice (some ⟨d,0,none⟩) b.length V) b from(sE c.out));obtain⟨aJ,ac,ad,A,K⟩:=Kd.R_elem ab.out z51 (a:Int) (zzA) (by have u:(a:Int)<((b.length:Int):Int):=zzA;first|exact u|(have e_:=(Kd.R_reads' c.out).1;omega)|simpa using u);obtain rfl:=k51_openM ad;have L:=Kd.R_seg ab.out (a:Int) (zzA) (by have u:(a:Int)<((b.length:Int):Int):=zzA;first|exact u|(have e_:=(Kd.R_reads' c.out).1;omega)|simpa using u) (seg:=[.string i,.int .i64 l]) (j:=0) ac A (show 2≤2 from by decide) (x':=(⟨i,l⟩:S51)) (k51_mkM _ _ _ (⟨i,l⟩:S51)) (fun _ hk=>hk);have au:=A 0 _ rfl;(try simp only[show(k51).sz=2 from rfl,Nat.mul_one,Nat.add_zero]at au);have av:=K 0;(try simp only[show(k51).sz=2 from rfl,Nat.mul_one,Nat.add_zero]at av);have aw:=A 1 _ rfl;(try simp only[show(k51).sz=2 from rfl,Nat.mul_one,Nat.add_zero]at aw);have ax:=K 1;(try simp only[show(k51).sz=2 from rfl,Nat.mul_one,Nat.add_zero]at ax);clear ac A K ad)|((with_reducible refine gate_store (t:=51) (p:=21) rfl ?_);refine store_event (t:=51) (p:=21) (v:=?vo_w13) (w1:=((m.setCell ⟨d,(a:Int).toNat*2,none⟩ (.string i)).setCell ⟨d,(a:Int).toNat*2+1,none⟩ (.int .i64 l))) ?hg ?ho ?hn ?hr ?_;(case ho=>rfl);(case hg=>rfl);(case hn=>rfl);(case hr=>first|(go_simp;done)|(go_simp;rfl));intro M hw;have hg:m.grownBy M (some d):=(by rw[hw];exact L.2);have ae:Kd.R k51 51 M w.heap.size (fun _=>True) (.slice (some ⟨d,0,none⟩) b.length V) y130:=(by rw[hw,am.out];exact L.1);clear L;have af:=zM (ae);have ag:=zM ((by rw[hw];exact below_set (below_set (HB.out) Z.out) Z.out:Below w.heap.size w M));clear c;clear HB;have c:=af;have HB:=ag;clear af ag;clear hg hw ae))
 go_roundg k1
 case measure=>have:=Q.out;omega
 case rel=>exact⟨(y130),(wrap64 (a+1)),sr,H',⟨by have:=Q.out;omega⟩,⟨by exact sE c.out⟩,⟨sb⟩⟩)
 rw[if_neg y]at H
 exact absurd H (by simp))
 rw[if_neg x]at H
 exact absurd H (by simp))
 rw[if_neg q]at H
 have c6b0:=zF q
 clear q
 obtain rfl:=zI H
 go_wp2
 go_ret
 exact⟨_,sq,by exact sE c.out,sb⟩)))
 rw[if_neg o]at H
 exact absurd H (by simp))
 rw[if_neg n]at H
 exact absurd H (by simp)
end Go.Proofs.Ytcppdkdnpmgpmaa.PFnExactEntryOf
