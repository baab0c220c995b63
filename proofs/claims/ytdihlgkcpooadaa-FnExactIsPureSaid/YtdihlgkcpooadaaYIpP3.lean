/- Printed functions: laws_toNamedS. -/
import Derived.Test.YtdihlgkcpooadaaYIpP0
import Derived.Test.YtdihlgkcpooadaaYIpP2
namespace Go.Proofs.Ytdihlgkcpooadaa.PFnExactIsPure
open Go.RowKit Go.Proofs.YtdihlgkcpooadaaG Go.Proofs.YtdihlgkcpooadaaW.PrintWords Go.Proofs.YtdihlgkcpooadaaW.PrintLast Go.Proofs.YtdihlgkcpooadaaW.PrintMore
attribute [local go_sem] max2_int min2_int max_two min_two max_three min_three max_four min_four
set_option linter.unusedVariables false
set_option linter.unusedSimpArgs false
def laws_toNamedS.l0 : Nat → List (S49) → List (S52) → Int → Option ((List (S52)))
 |0,_,_,_=>none
 |k+1,x0,x3,x4=>if x4<(x0.length:Int)then(if 0≤x4 then((laws_toNamed.f k ((rd_T49 x0 x4).f0) ((rd_T49 x0 x4).f1.f0) ((rd_T49 x0 x4).f1.f1) ((rd_T49 x0 x4).f1.f2) ((rd_T49 x0 x4).f1.f3)).bind fun bt139=>(if x4<(x3.length:Int)then(laws_toNamedS.l0 k x0 (x3.set (x4:Int).toNat (⟨bt139.1,(⟨bt139.2.1,bt139.2.2.1,bt139.2.2.2.1,bt139.2.2.2.2⟩:S36)⟩:S52)) (wrap64 (x4+1)))else(none)))else(none))else(some x3)
def laws_toNamedS.f (k:Nat) (l0:List (S49)):Option ((List (S52))):=if 0≤(l0.length:Int)then(if((l0.length:Int):Int).toNat≤3909374676536 then(laws_toNamedS.l0 k l0 (List.replicate ((l0.length:Int):Int).toNat z52) 0)else(none))else(none)
set_option maxHeartbeats 8000000 in
set_option maxRecDepth 100000 in
theorem laws_toNamedS.calls (k:Nat) (A0:Option Addr) (c0:Nat) (l0:List (S49)) (r:List (S52)) (w:World) (hr0:Kd.C k49 w A0 l0.length l0) (hc0:l0.length≤c0) (h:laws_toNamedS.f k l0=some r):
  Calls Try.prog 9 #[.slice A0 l0.length c0] w fun e w'=>∃Y:Value,e= .returned (Y)∧Kd.R k52 52 w' w.heap.size (fun _=>True) Y r∧Below w.heap.size w w':=by
 have aX:=Try.underlying49
 have aY:=Try.underlying52
 have aw:=zM hr0
 have aZ:=zM hc0
 clear hr0 hc0
 have HB:=zM (Below.refl w.heap.size w)
 have H:(if 0≤(l0.length:Int)then(if((l0.length:Int):Int).toNat≤3909374676536 then(laws_toNamedS.l0 k l0 (List.replicate ((l0.length:Int):Int).toNat z52) 0)else(none))else(none))=some r:=h
 clear h
 by_cases s:0≤(l0.length:Int)
 ·(
 rw[if_pos s]at H
 have c2b0:=eq_true s
 have c2b1:=zT s
 clear s
 by_cases u:((l0.length:Int):Int).toNat≤3909374676536
 ·(
 rw[if_pos u]at H
 have c3b0:=eq_true u
 have c3b1:=zT u
 clear u
 obtain⟨y135,hy135⟩:∃K:List (S52),K=(List.replicate ((l0.length:Int):Int).toNat z52):=⟨_,rfl⟩
 replace H:(laws_toNamedS.l0 k l0 y135 0)=some r:=by first|(rw[hy135];with_reducible exact H)|(have i:=(Option.bind_some _ _).symm.trans H;rw[hy135];with_reducible exact i)|(have i:=(Option.bind_some _ _).symm.trans H;with_reducible exact i)|with_reducible exact H|(rw[hy135];exact H)|exact H
 have Z:=zM hy135
 clear hy135
 have H':=zM H
 clear H
 go_enter Try.func9,Try.ntmps9
 go_wp2_with (first|((with_reducible refine gate_dst (N:=7) rfl ?_);refine Kd.R_make k52 _ 52 rfl (N:=7) rfl 25 _ _ rfl (l0.length:Int) rfl rfl Try.underlying25 (.agg #[(.string ⟨#[]⟩),(.int .i64 0),(.int .i64 0),(.string ⟨#[]⟩),(.slice none 0 0)]) 72 info52 rfl (by decide) (by omega) z52 (ok:=fun _=>True) (okp:=fun _=>True) (k52_mkM _ _ _ z52 (Kd.R_nil _ _ _ _ _)) (fun _ hk=>hk) trivial (zzA) (Nat.le_trans (Nat.mul_le_mul_right _ (zzA:(l0.length:Int).toNat≤3909374676536)) (by omega)) (Below.refl _ _) (Nat.le_refl _) ?_;intro ax w4 B hb ay az;clear ay az;(first|rw[←Z.out]at B|(simp only[Int.reduceToNat]at B;rw[←Z.out]at B));have aA:=zM (Kd.R_lower B (below_size (sH HB.out)));replace HB:=sB HB hb;clear hb B))
 go_loopg [4] k (fun kq v4 w'=>∃(c:List (S52)) (a:Int),v4= .int .i64 a∧Aside0 (laws_toNamedS.l0 kq l0 c a=some r)∧Aside0 (kq≤k)∧Aside0 (Kd.R k52 52 w' w.heap.size (fun _=>True) ax c)∧Aside0 (Below w.heap.size w w'))
 case atStart=>exact⟨(y135),(0),sr,H',⟨Nat.le_refl _⟩,⟨by exact sE aA.out⟩,⟨sb⟩⟩
 case round=>(
 clear H'
 try clear s
 try clear c2b0
 try clear c2b1
 try clear u
 try clear c3b0
 try clear c3b1
 obtain⟨c,a,rfl,HA,aa,d,HB⟩:=hrel
 cases gk with
 |zero=>exact absurd HA.out (by simp[laws_toNamedS.l0])
 |succ k1=>(
 have H:=HA.out
 clear HA
 simp only[laws_toNamedS.l0]at H
 by_cases x:a<(l0.length:Int)
 ·(
 rw[if_pos x]at H
 have c6b0:=zT x
 clear x
 by_cases G:0≤a
 ·(
 rw[if_pos G]at H
 have c7b0:=zT G
 clear G
 replace H:=Option.bind_eq_some_iff.mp H
 obtain⟨⟨l,m,n,o,D⟩,ab,H⟩:=H
 replace H:(if a<(c.length:Int)then(laws_toNamedS.l0 k1 l0 (c.set (a:Int).toNat (⟨l,(⟨m,n,o,D⟩:S36)⟩:S52)) (wrap64 (a+1)))else(none))=some r:=H
 have A8:=zM ab
 clear ab
 by_cases I:a<(c.length:Int)
 ·(
 rw[if_pos I]at H
 have c9b0:=zT I
 clear I
 obtain⟨y146,hy146⟩:∃K:List (S52),K=(c.set (a:Int).toNat (⟨l,(⟨m,n,o,D⟩:S36)⟩:S52)):=⟨_,rfl⟩
 replace H:(laws_toNamedS.l0 k1 l0 y146 (wrap64 (a+1)))=some r:=by first|(rw[hy146];with_reducible exact H)|(have i:=(Option.bind_some _ _).symm.trans H;rw[hy146];with_reducible exact i)|(have i:=(Option.bind_some _ _).symm.trans H;with_reducible exact i)|with_reducible exact H|(rw[hy146];exact H)|exact H
 have aB:=zM hy146
 clear hy146
 have H':=zM H
 clear H
 have L:0≤(a:Int):=zzA
 have M:a<(l0.length:Int):=zzA
 obtain⟨a0,aC,aD,aE,ac,ad,ae,af,ag,ah,ai⟩:=at_T49 aw.out a L M
 cases aE
 replace ac:=sX HB ac
 replace ad:=sX HB ad
 replace ae:=sX HB ae
 replace af:=sX HB af
 replace ag:=sX HB ag
 have aF:=zM ai
 have aG:=zM ah
 clear ai ah
 replace L:=eq_true L
 replace M:=eq_true M
 go_wp2_with (first|((with_reducible refine gate_callee (f:=25) rfl ?_);refine sC (some 20) Try.func25 #[.agg #[.string ((rd_T49 l0 a).f0),.int .i64 ((rd_T49 l0 a).f1.f0),.int .i64 ((rd_T49 l0 a).f1.f1),.string ((rd_T49 l0 a).f1.f2),.slice aC ((rd_T49 l0 a).f1.f3).length aD]] (laws_toNamed.calls k1 ((rd_T49 l0 a).f0) ((rd_T49 l0 a).f1.f0) ((rd_T49 l0 a).f1.f1) ((rd_T49 l0 a).f1.f2) _ _ ((rd_T49 l0 a).f1.f3) l m n o D _ ?side1 ?side2 A8.out) ?_;(case side1=>exact sD (zC aF.out HB.out));(case side2=>exact aG.out);rintro e g ⟨O,rfl,P,hb⟩;refine⟨_,rfl,?_⟩;replace d:=zM (Kd.R_elder' (sE d.out) (Kd.R_base P) hb);have Q:=zM (Kd.R_lower P (below_size (sH HB.out)));replace HB:=sB HB hb;(try clear hb);(try clear P);have S:0≤(a:Int):=zzA;have T:(a:Int)<((c.length:Int):Int):=zzA;obtain⟨b,aj,ak,al,aH,a1,am⟩:=Kd.R_form d.out (by omega);(first|cases ak|(injection ak with J aI aJ;(first|subst J|(injection J with J;subst J));subst aJ;clear aI));have E:=zM al;have a2:=zM am;clear al aH am;obtain⟨a3,aK,an,y,z⟩:=Kd.R_elem d.out z52 (a:Int) S T;obtain⟨aL,rfl,a4⟩:=k52_openM an;have a5:g.cell? ⟨b,(a:Int).toNat*5,none⟩=some (.string ((rd_T52 c a).f0)):=y 0 _ rfl;have a6:g.cell? ⟨b,(a:Int).toNat*5+1,none⟩=some (.int .i64 ((rd_T52 c a).f1.f0)):=y 1 _ rfl;have a7:g.cell? ⟨b,(a:Int).toNat*5+2,none⟩=some (.int .i64 ((rd_T52 c a).f1.f1)):=y 2 _ rfl;have a8:g.cell? ⟨b,(a:Int).toNat*5+3,none⟩=some (.string ((rd_T52 c a).f1.f2)):=y 3 _ rfl;have a9:g.cell? ⟨b,(a:Int).toNat*5+4,none⟩=some (aL):=y 4 _ rfl;have ba:g.frozen? ⟨b,(a:Int).toNat*5,none⟩=false:=z 0;have bb:g.frozen? ⟨b,(a:Int).toNat*5+1,none⟩=false:=z 1;have bc:g.frozen? ⟨b,(a:Int).toNat*5+2,none⟩=false:=z 2;have bd:g.frozen? ⟨b,(a:Int).toNat*5+3,none⟩=false:=z 3;have be:g.frozen? ⟨b,(a:Int).toNat*5+4,none⟩=false:=z 4;clear aK y z an;replace S:=eq_true S;replace T:=eq_true T;have n_:=zM (Kd.R_mono (ok':=(fun U=>some U≠(O:Value).ownBlock)) d.out (fun U hk=>hk.2));clear d;have d:=n_;clear n_;have ao:=zM (show Kd.R k52 52 g w.heap.size (fun _=>True) (.slice (some ⟨b,0,none⟩) c.length aj) c from(by(with_reducible repeat(first|apply Kd.R_alloc|apply Kd.R_drewN|apply Kd.R_drew));exact Kd.R_mono d.out (fun _ hk=>trivial)));obtain⟨bf,ap,aq,q,A⟩:=Kd.R_elem ao.out z52 (a:Int) (zzA) (by have F:(a:Int)<((c.length:Int):Int):=zzA;first|exact F|(have V:=(Kd.R_reads' d.out).1;omega)|simpa using F);obtain⟨bg,rfl,bh⟩:=k52_openM aq;have W:=Kd.R_seg ao.out (a:Int) (zzA) (by have F:(a:Int)<((c.length:Int):Int):=zzA;first|exact F|(have V:=(Kd.R_reads' d.out).1;omega)|simpa using F) (seg:=[.string l,.int .i64 m,.int .i64 n,.string o,O]) (j:=0) ap q (show 5≤5 from by decide) (x':=(⟨l,(⟨m,n,o,D⟩:S36)⟩:S52)) (k52_mkM _ _ _ (⟨l,(⟨m,n,o,D⟩:S36)⟩:S52) (Kd.R_mono (Kd.R_apart' (Q.out) (Kd.R_typed d.out) (by decide)) (fun U hk=>⟨trivial,fun V=>(hk.2) (by rw[V];rfl)⟩))) (fun _ hk=>hk);have aM:=q 0 _ rfl;(try simp only[show(k52).sz=5 from rfl,Nat.mul_one,Nat.add_zero]at aM);have aN:=A 0;(try simp only[show(k52).sz=5 from rfl,Nat.mul_one,Nat.add_zero]at aN);have aO:=q 1 _ rfl;(try simp only[show(k52).sz=5 from rfl,Nat.mul_one,Nat.add_zero]at aO);have aP:=A 1;(try simp only[show(k52).sz=5 from rfl,Nat.mul_one,Nat.add_zero]at aP);have aQ:=q 2 _ rfl;(try simp only[show(k52).sz=5 from rfl,Nat.mul_one,Nat.add_zero]at aQ);have aR:=A 2;(try simp only[show(k52).sz=5 from rfl,Nat.mul_one,Nat.add_zero]at aR);have aS:=q 3 _ rfl;(try simp only[show(k52).sz=5 from rfl,Nat.mul_one,Nat.add_zero]at aS);have aT:=A 3;(try simp only[show(k52).sz=5 from rfl,Nat.mul_one,Nat.add_zero]at aT);have aU:=q 4 _ rfl;(try simp only[show(k52).sz=5 from rfl,Nat.mul_one,Nat.add_zero]at aU);have aV:=A 4;(try simp only[show(k52).sz=5 from rfl,Nat.mul_one,Nat.add_zero]at aV);clear ap q A aq)|((with_reducible refine gate_store (t:=52) (p:=21) rfl ?_);refine store_event (t:=52) (p:=21) (v:=?vo_w13) (w1:=(((((g.setCell ⟨b,(a:Int).toNat*5,none⟩ (.string l)).setCell ⟨b,(a:Int).toNat*5+1,none⟩ (.int .i64 m)).setCell ⟨b,(a:Int).toNat*5+2,none⟩ (.int .i64 n)).setCell ⟨b,(a:Int).toNat*5+3,none⟩ (.string o)).setCell ⟨b,(a:Int).toNat*5+4,none⟩ (O))) ?hg ?ho ?hn ?hr ?_;(case ho=>rfl);(case hg=>rfl);(case hn=>rfl);(case hr=>first|(go_simp;done)|(go_simp;rfl)|(obtain⟨_,_,aW⟩:=Kd.R_slice Q.out;simp only[aW];first|(go_simp;done)|(go_simp;rfl)));intro X hw;have hg:g.grownBy X (some b):=(by rw[hw];exact W.2);have ar:Kd.R k52 52 X w.heap.size (fun _=>True) (.slice (some ⟨b,0,none⟩) c.length aj) y146:=(by rw[hw,aB.out];exact W.1);clear W;have au:=zM (ar);have av:=zM ((by rw[hw];exact below_set (below_set (below_set (below_set (below_set (HB.out) E.out) E.out) E.out) E.out) E.out:Below w.heap.size w X));clear d;clear HB;clear Q;have d:=au;have HB:=av;clear au av;clear hg hw ar))
 go_roundg k1
 case measure=>have:=aa.out;omega
 case rel=>exact⟨(y146),(wrap64 (a+1)),sr,H',⟨by have:=aa.out;omega⟩,⟨by exact sE d.out⟩,⟨sb⟩⟩)
 rw[if_neg I]at H
 exact absurd H (by simp))
 rw[if_neg G]at H
 exact absurd H (by simp))
 rw[if_neg x]at H
 have c6b0:=zF x
 clear x
 obtain rfl:=zI H
 go_wp2
 go_ret
 exact⟨_,sq,by exact sE d.out,sb⟩)))
 rw[if_neg u]at H
 exact absurd H (by simp))
 rw[if_neg s]at H
 exact absurd H (by simp)
end Go.Proofs.Ytdihlgkcpooadaa.PFnExactIsPure
