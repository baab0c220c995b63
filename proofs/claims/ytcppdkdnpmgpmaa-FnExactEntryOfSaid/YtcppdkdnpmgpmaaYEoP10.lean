/- Printed functions: spec_l13Marks. -/
import Derived.Test.YtcppdkdnpmgpmaaYEoP0
import Derived.Test.YtcppdkdnpmgpmaaYEoP9
namespace Go.Proofs.Ytcppdkdnpmgpmaa.PFnExactEntryOf
open Go.RowKit Go.Proofs.YtcppdkdnpmgpmaaG Go.Proofs.YtcppdkdnpmgpmaaW.PrintWords Go.Proofs.YtcppdkdnpmgpmaaW.PrintLast Go.Proofs.YtcppdkdnpmgpmaaW.PrintMore
attribute [local go_sem] max2_int min2_int max_two min_two max_three min_three max_four min_four
set_option linter.unusedVariables false
set_option linter.unusedSimpArgs false
mutual
def spec_l13Marks.l0 : Nat → List Int → Int → List (S55) → List (S51) → Option (List Int × Bool)
 |0,_,_,_,_=>none
 |k+1,x4,x5,x198000,x198001=>if x5<(x198000.length:Int)then(if x4.length<17592186044416 then(spec_l13Marks.l0 k (x4++[(-1)]) (wrap64 (x5+1)) x198000 x198001)else(none))else(if 0<(x4.length:Int)then(spec_l13Marks.l1 k (x4.set (0:Int).toNat 0) (([0]:List Int)) 0 x198000 x198001)else(none))
def spec_l13Marks.l1 : Nat → List Int → List Int → Int → List (S55) → List (S51) → Option (List Int × Bool)
 |0,_,_,_,_,_=>none
 |k+1,x4,x6,x7,x198000,x198001=>if x7<(x198001.length:Int)then(if 0≤x7 then(if 0≤((rd_T51 x198001 x7).f1)then(if((rd_T51 x198001 x7).f1)<(x4.length:Int)then(if x6.length<17592186044416 then(spec_l13Marks.l1 k (x4.set (((rd_T51 x198001 x7).f1):Int).toNat 0) (x6++[(rd_T51 x198001 x7).f1]) (wrap64 (x7+1)) x198000 x198001)else(none))else(none))else(none))else(none))else(spec_l13Marks.l2 k x4 x6 x198000 x198001)
def spec_l13Marks.l2 : Nat → List Int → List Int → List (S55) → List (S51) → Option (List Int × Bool)
 |0,_,_,_,_=>none
 |k+1,x4,x6,x198000,x198001=>if(x6.length:Int)>0 then(if 0≤(wrap64 ((x6.length:Int)- 1))then(if(wrap64 ((x6.length:Int)- 1))<(x6.length:Int)then(if(wrap64 ((x6.length:Int)- 1))≤(x6.length:Int)then((some (x6.take ((wrap64 ((x6.length:Int)- 1)):Int).toNat:List Int)).bind fun y215=>(if 0≤(rd x6 (wrap64 ((x6.length:Int)- 1)))then(if(rd x6 (wrap64 ((x6.length:Int)- 1)))<(x198000.length:Int)then(if(rd x6 (wrap64 ((x6.length:Int)- 1)))<(x4.length:Int)then(if((rd_T55 x198000 (rd x6 (wrap64 ((x6.length:Int)- 1)))).f0)=34 then(spec_l13Marks.j5 k x4 y215 (rd x6 (wrap64 ((x6.length:Int)- 1))) (wrap64 ((rd x4 (rd x6 (wrap64 ((x6.length:Int)- 1))))+1)) x198000 x198001 ((rd_T55 x198000 (rd x6 (wrap64 ((x6.length:Int)- 1)))).f0) ((rd_T55 x198000 (rd x6 (wrap64 ((x6.length:Int)- 1)))).f1) ((rd_T55 x198000 (rd x6 (wrap64 ((x6.length:Int)- 1)))).f2))else(if((rd_T55 x198000 (rd x6 (wrap64 ((x6.length:Int)- 1)))).f0)=35 then(spec_l13Marks.j3 k x4 y215 (rd x6 (wrap64 ((x6.length:Int)- 1))) (rd x4 (rd x6 (wrap64 ((x6.length:Int)- 1)))) ((rd_T55 x198000 (rd x6 (wrap64 ((x6.length:Int)- 1)))).f0) (((rd_T55 x198000 (rd x6 (wrap64 ((x6.length:Int)- 1)))).f0)==35) x198000 x198001 ((rd_T55 x198000 (rd x6 (wrap64 ((x6.length:Int)- 1)))).f0) ((rd_T55 x198000 (rd x6 (wrap64 ((x6.length:Int)- 1)))).f1) ((rd_T55 x198000 (rd x6 (wrap64 ((x6.length:Int)- 1)))).f2))else(if((rd_T55 x198000 (rd x6 (wrap64 ((x6.length:Int)- 1)))).f0)=36 then(spec_l13Marks.j3 k x4 y215 (rd x6 (wrap64 ((x6.length:Int)- 1))) (rd x4 (rd x6 (wrap64 ((x6.length:Int)- 1)))) ((rd_T55 x198000 (rd x6 (wrap64 ((x6.length:Int)- 1)))).f0) (((rd_T55 x198000 (rd x6 (wrap64 ((x6.length:Int)- 1)))).f0)==36) x198000 x198001 ((rd_T55 x198000 (rd x6 (wrap64 ((x6.length:Int)- 1)))).f0) ((rd_T55 x198000 (rd x6 (wrap64 ((x6.length:Int)- 1)))).f1) ((rd_T55 x198000 (rd x6 (wrap64 ((x6.length:Int)- 1)))).f2))else(spec_l13Marks.j3 k x4 y215 (rd x6 (wrap64 ((x6.length:Int)- 1))) (rd x4 (rd x6 (wrap64 ((x6.length:Int)- 1)))) ((rd_T55 x198000 (rd x6 (wrap64 ((x6.length:Int)- 1)))).f0) (((rd_T55 x198000 (rd x6 (wrap64 ((x6.length:Int)- 1)))).f0)==37) x198000 x198001 ((rd_T55 x198000 (rd x6 (wrap64 ((x6.length:Int)- 1)))).f0) ((rd_T55 x198000 (rd x6 (wrap64 ((x6.length:Int)- 1)))).f1) ((rd_T55 x198000 (rd x6 (wrap64 ((x6.length:Int)- 1)))).f2)))))else(none))else(none))else(none)))else(none))else(none))else(none))else(some (x4,true))
def spec_l13Marks.j5 : Nat → List Int → List Int → Int → Int → List (S55) → List (S51) → Int → Int → ByteArray → Option (List Int × Bool)
 |0,_,_,_,_,_,_,_,_,_=>none
 |k+1,x4,x6,x8,x10,x198000,x198001,x220000,x220001,x220002=>if x10<0 then(some (([]:List Int),false))else((spec_l13Next.f k x220000 x220001 x220002 x8).bind fun t221=>(spec_l13Marks.l3 k x4 x6 x10 t221 0 x198000 x198001))
def spec_l13Marks.l3 : Nat → List Int → List Int → Int → List Int → Int → List (S55) → List (S51) → Option (List Int × Bool)
 |0,_,_,_,_,_,_,_=>none
 |k+1,x4,x6,x10,x11,x12,x198000,x198001=>if x12<(x11.length:Int)then(if 0≤x12 then(if 0≤(rd x11 x12)then(if(rd x11 x12)<(x4.length:Int)then(if(rd x4 (rd x11 x12))=(-1)then(if x6.length<17592186044416 then(spec_l13Marks.l3 k (x4.set ((rd x11 x12):Int).toNat x10) (x6++[rd x11 x12]) x10 x11 (wrap64 (x12+1)) x198000 x198001)else(none))else(if(rd x4 (rd x11 x12))=x10 then(spec_l13Marks.l3 k x4 x6 x10 x11 (wrap64 (x12+1)) x198000 x198001)else(some (([]:List Int),false))))else(none))else(none))else(none))else(spec_l13Marks.l2 k x4 x6 x198000 x198001)
def spec_l13Marks.j3 : Nat → List Int → List Int → Int → Int → Int → Bool → List (S55) → List (S51) → Int → Int → ByteArray → Option (List Int × Bool)
 |0,_,_,_,_,_,_,_,_,_,_,_=>none
 |k+1,x4,x6,x8,x10,x75,x80,x198000,x198001,x220000,x220001,x220002=>if x80=true then(spec_l13Marks.j5 k x4 x6 x8 (wrap64 (x10- 1)) x198000 x198001 x220000 x220001 x220002)else(if x75=39 then(spec_l13Marks.j4 k x4 x6 x8 x10 (x75==39) x198000 x198001 x220000 x220001 x220002)else(spec_l13Marks.j4 k x4 x6 x8 x10 (x75==38) x198000 x198001 x220000 x220001 x220002))
def spec_l13Marks.j4 : Nat → List Int → List Int → Int → Int → Bool → List (S55) → List (S51) → Int → Int → ByteArray → Option (List Int × Bool)
 |0,_,_,_,_,_,_,_,_,_,_=>none
 |k+1,x4,x6,x8,x10,x86,x198000,x198001,x220000,x220001,x220002=>if x86=true then(if x10=0 then(spec_l13Marks.j5 k x4 x6 x8 x10 x198000 x198001 x220000 x220001 x220002)else(some (([]:List Int),false)))else(spec_l13Marks.j5 k x4 x6 x8 x10 x198000 x198001 x220000 x220001 x220002)
end
def spec_l13Marks.f (k:Nat) (l0_0:List (S55)) (l0_1:List (S51)):Option (List Int×Bool):=spec_l13Marks.l0 k (([]:List Int)) 0 l0_0 l0_1
set_option maxHeartbeats 8000000 in
set_option maxRecDepth 100000 in
theorem spec_l13Marks.calls (k:Nat) (A0_0:Option Addr) (c0_0:Nat) (l0_0:List (S55)) (A0_1:Option Addr) (c0_1:Nat) (l0_1:List (S51)) (r1:List Int) (r2:Bool) (w:World) (hr0_0:Kd.C k55 w A0_0 l0_0.length l0_0) (hc0_0:l0_0.length≤c0_0) (hr0_1:Kd.C k51 w A0_1 l0_1.length l0_1) (hc0_1:l0_1.length≤c0_1) (h:spec_l13Marks.f k l0_0 l0_1=some (r1,r2)):
  Calls Try.prog 22 #[.agg #[.slice A0_0 l0_0.length c0_0,.slice A0_1 l0_1.length c0_1]] w fun e w'=>∃cf:Value,e= .returned (.tuple #[cf,.bool r2])∧Kd.R (Kd.int .i64) 2 w' w.heap.size (fun _=>True) cf r1∧Below w.heap.size w w':=by
 have dn:=Try.underlying32
 have dp:=Try.underlying55
 have cC:=zM hr0_0
 have dq:=zM hc0_0
 clear hr0_0 hc0_0
 have cg:=zM hr0_1
 have dr:=zM hc0_1
 clear hr0_1 hc0_1
 have HB:=zM (Below.refl w.heap.size w)
 have H:(spec_l13Marks.l0 k (([]:List Int)) 0 l0_0 l0_1)=some (r1,r2):=h
 clear h
 obtain⟨y198,hy198⟩:∃J:List Int,J=(([]:List Int)):=⟨_,rfl⟩
 replace H:(spec_l13Marks.l0 k y198 0 l0_0 l0_1)=some (r1,r2):=by first|(rw[hy198];with_reducible exact H)|(have y:=(Option.bind_some _ _).symm.trans H;rw[hy198];with_reducible exact y)|(have y:=(Option.bind_some _ _).symm.trans H;with_reducible exact y)|with_reducible exact H|(rw[hy198];exact H)|exact H
 have ch:=zM hy198
 clear hy198
 have H':=zM H
 clear H
 go_enter Try.func22,Try.ntmps22
 go_wp2_with (first|((with_reducible refine gate_dst (N:=1) rfl ?_);refine sV (N:=1) (cs:= #[.slice A0_0 l0_0.length c0_0,.slice A0_1 l0_1.length c0_1]) (t:=32) ?_;intro Y hg w2 hbox hb;have d:=zM (hbox);have ds:=sG HB hg;have ak:=sG HB hg;replace HB:=sB HB hb;clear hb hbox hg)|((with_reducible refine gate_dst (N:=13) rfl ?_);refine Kd.R_lit (Kd.int .i64) _ 2 ?hg (N:=13) ?hd (xs:=([]:List Int)) (inner:=[]) (ok:=fun _=>True) (okp:=fun _=>True) ?hr ?hp (fun _ hk=>hk) trivial (Below.refl _ _) (Nat.le_refl _) (by simp) ?_;(case hd=>rfl);(case hg=>rfl);(case hr=>first|(go_simp;done)|(go_simp;rfl));(case hp=>exact(Reps.none _ _));intro dt w3 a8 hb bO bP;clear bO bP;(first|rw[←ch.out]at a8|(simp only[Int.reduceToNat]at a8;rw[←ch.out]at a8));have cD:=zM (Kd.R_lower a8 (below_size zzR));replace d:=sK d hb;replace HB:=sB HB hb;clear hb a8))
 go_loopg [4,5] k (fun kq v4 v5 w'=>∃(I:List Int) (aT:Int),v5= .int .i64 aT∧Aside0 (spec_l13Marks.l0 kq I aT l0_0 l0_1=some (r1,r2))∧Aside0 (kq≤k)∧Aside0 (Kd.R (Kd.int .i64) 2 w' w.heap.size (fun _=>True) v4 I)∧Aside0 (w'.heap[Y]?=some (.cells #[(.slice A0_0 l0_0.length c0_0),(.slice A0_1 l0_1.length c0_1)] 32 (0,0)))∧Aside0 (Below w.heap.size w w'))
 case atStart=>exact⟨(y198),(0),sr,H',⟨Nat.le_refl _⟩,⟨by exact sE cD.out⟩,⟨by exact sT d.out⟩,⟨sb⟩⟩
 case round=>(
 clear H'
 obtain⟨I,aT,rfl,HA,F,c,d,HB⟩:=hrel
 cases gk with
 |zero=>exact absurd HA.out (by simp[spec_l13Marks.l0])
 |succ k1=>(
 have H:=HA.out
 clear HA
 simp only[spec_l13Marks.l0]at H
 by_cases c5:aT<(l0_0.length:Int)
 ·(
 rw[if_pos c5]at H
 have c5b0:=zT c5
 clear c5
 by_cases c6:I.length<17592186044416
 ·(
 rw[if_pos c6]at H
 have cE:=zM c6
 clear c6
 obtain⟨y201,hy201⟩:∃J:List Int,J=(I++[(-1)]):=⟨_,rfl⟩
 replace H:(spec_l13Marks.l0 k1 y201 (wrap64 (aT+1)) l0_0 l0_1)=some (r1,r2):=by first|(rw[hy201];with_reducible exact H)|(have y:=(Option.bind_some _ _).symm.trans H;rw[hy201];with_reducible exact y)|(have y:=(Option.bind_some _ _).symm.trans H;with_reducible exact y)|with_reducible exact H|(rw[hy201];exact H)|exact H
 have cF:=zM hy201
 clear hy201
 have H':=zM H
 clear H
 obtain⟨du,dv,dw,dx⟩:=cells2 d.out
 go_wp2_with (first|((with_reducible refine gate_builtin (b:= .append) (xs:= #[.tmp 21,.tmp 22]) rfl ?_);at_builtin;refine Kd.R_append (Kd.int .i64) (w0:=w) w.heap.size rfl (.tmp 21) (.tmp 22) 52 2 (.int .i64 0) 8 rfl Try.underlying52 info2 rfl (by decide) (by omega) u4 I (-1) [.int .i64 (-1)] (fun _=>True) (fun _=>False) rfl rfl ?aP (fun _ hk=>hk.elim) ?aF ?aO ?aB ?aS ?aL ?_;(case aP=>exact rfl);(case aB=>exact zzR);(case aF=>exact(fun _ _=>trivial));(case aO=>exact(sE c.out));(case aS=>exact(below_size zzR));(case aL=>have:=cE.out;omega);intro dy w8 ho hb hg hat;rw[←cF.out]at ho;replace d:=zM (blk_grown (g:=Y) (o:= .cells #[.slice A0_0 l0_0.length c0_0,.slice A0_1 l0_1.length c0_1] 32 (0,0)) (sT d.out) hg (Kd.R_ne c.out d.out (by decide)));replace HB:=zM (hb);have cG:=zM (ho);clear c;clear ho hb hg hat))
 go_roundg k1
 case measure=>have:=F.out;omega
 case rel=>exact⟨(y201),(wrap64 (aT+1)),sr,H',⟨by have:=F.out;omega⟩,⟨by exact sE cG.out⟩,⟨by exact sT d.out⟩,⟨sb⟩⟩)
 rw[if_neg c6]at H
 exact absurd H (by simp))
 rw[if_neg c5]at H
 have c5b0:=zF c5
 clear c5
 obtain⟨y204,hy204⟩:∃J:List Int,J=(([0]:List Int)):=⟨_,rfl⟩
 replace H:(if 0<(I.length:Int)then(spec_l13Marks.l1 k1 (I.set (0:Int).toNat 0) y204 0 l0_0 l0_1)else(none))=some (r1,r2):=by first|(rw[hy204];with_reducible exact H)|(have y:=(Option.bind_some _ _).symm.trans H;rw[hy204];with_reducible exact y)|(have y:=(Option.bind_some _ _).symm.trans H;with_reducible exact y)|with_reducible exact H|(rw[hy204];exact H)|exact H
 have ci:=zM hy204
 clear hy204
 by_cases c9:0<(I.length:Int)
 ·(
 rw[if_pos c9]at H
 have c9b0:=zT c9
 have c9b1:decide (0<I.length)=true:=zT (by omega)
 clear c9
 obtain⟨y207,hy207⟩:∃J:List Int,J=(I.set (0:Int).toNat 0):=⟨_,rfl⟩
 replace H:(spec_l13Marks.l1 k1 y207 y204 0 l0_0 l0_1)=some (r1,r2):=by first|(rw[hy207];with_reducible exact H)|(have y:=(Option.bind_some _ _).symm.trans H;rw[hy207];with_reducible exact y)|(have y:=(Option.bind_some _ _).symm.trans H;with_reducible exact y)|with_reducible exact H|(rw[hy207];exact H)|exact H
 have cH:=zM hy207
 clear hy207
 have H':=zM H
 clear H
 obtain⟨aU,aV,aW,aX⟩:=cells2 d.out
 go_wp2_with (first|((with_reducible refine gate_dst (N:=24) rfl ?_);refine Kd.R_lit (Kd.int .i64) _ 2 ?hg (N:=24) ?hd (xs:=([0]:List Int)) (inner:=[.int .i64 0]) (ok:=fun _=>True) (okp:=fun _=>True) ?hr ?hp (fun _ hk=>hk) trivial (Below.refl _ _) (Nat.le_refl _) (by simp) ?_;(case hd=>rfl);(case hg=>rfl);(case hr=>first|(go_simp;done)|(go_simp;rfl));(case hp=>exact(Reps.one (show Kd.M (Kd.int .i64) _ _ _ 0 [.int .i64 0] from rfl) (Reps.none _ _)));intro cj ck aY hb bO bP;clear bO bP;(first|rw[←ci.out]at aY|(simp only[Int.reduceToNat]at aY;rw[←ci.out]at aY));have bj:=zM (Kd.R_lower (Kd.R_new' aY (Kd.R_lt (sE c.out))) (below_size zzR));replace c:=zM (Kd.R_elder' (sE c.out) (Kd.R_base aY) hb);replace d:=sK d hb;replace HB:=sB HB hb;clear hb aY;have L:0≤(0:Int):=(by omega);have O:(0:Int)<((I.length:Int):Int):=zzA;have aZ:(0<I.length)=True:=eq_true (by omega);obtain⟨s,A,cl,cm,cI,dz,cn⟩:=Kd.R_form c.out (by omega);(first|cases cl|(injection cl with bk cJ cK;(first|subst bk|(injection bk with bk;subst bk));subst cK;clear cJ));have bQ:=zM cm;have dA:=zM cn;clear cm cI cn;obtain⟨ao,co⟩:=Kd.R_celln 0 c.out (0:Int) L O;(try rw[show((0:Int)).toNat=0 from rfl]at ao);(try simp only[Nat.reduceMul,Nat.zero_mul,Nat.zero_add,Nat.reduceAdd]at ao);(try rw[show((0:Int)).toNat=0 from rfl]at co);(try simp only[Nat.reduceMul,Nat.zero_mul,Nat.zero_add,Nat.reduceAdd]at co);replace L:=eq_true L;replace O:=eq_true O;have n_:=zM (Kd.R_mono (ok':=(fun l=>some l≠(cj:Value).ownBlock)) c.out (fun l hk=>hk.2));clear c;have c:=n_;clear n_;obtain⟨cp,cq⟩:=Kd.R_celln 0 c.out (0:Int) (by omega) (zzA);(try simp only[Int.reduceToNat,Int.toNat_zero,Int.toNat_ofNat,Nat.reduceMul,Nat.zero_mul,Nat.zero_add]at cp cq);(try rw[show((0:Int)).toNat=0 from rfl]at cp);(try rw[show((0:Int)).toNat=0 from rfl]at cq);have bR:=Kd.R_putg c.out (0:Int) 0)|((with_reducible refine gate_store (t:=2) (p:=26) rfl ?_);refine store_event (t:=2) (p:=26) (v:=?vo_w15) (w1:=(ck.setCell ⟨s,(0:Int).toNat,none⟩ (.int .i64 0))) ?hg ?ho ?hn ?hr ?_;(case ho=>rfl);(case hg=>rfl);(case hn=>rfl);(case hr=>first|(go_simp;done)|(go_simp;rfl));intro bS hw;have hg:ck.grownBy bS (some s):=(by rw[hw];exact bR.2);have ap:Kd.R (Kd.int .i64) 2 bS w.heap.size (fun l=>some l≠(cj:Value).ownBlock) (.slice (some ⟨s,0,none⟩) I.length A) y207:=(by rw[hw,cH.out];exact bR.1);clear bR;have T:=zM (ap);have U:=zM (blk_grown (g:=Y) (o:= .cells #[.slice A0_0 l0_0.length c0_0,.slice A0_1 l0_1.length c0_1] 32 (0,0)) (sT d.out) hg (Kd.R_ne c.out d.out (by decide)));have V:=zM (Kd.R_after (v:=(.slice (some ⟨s,0,none⟩) I.length A)) (v1:=(.slice (some ⟨s,0,none⟩) I.length A)) (ok:=(fun _=>True)) (sE bj.out) hg (.inl rfl));have W:=zM ((by rw[hw];exact below_set (HB.out) bQ.out:Below w.heap.size w bS));clear c;clear d;clear bj;clear HB;have c:=T;have d:=U;have bj:=V;have HB:=W;clear T U V W;clear hg hw ap))
 go_loopg [6,7] k1 (fun kq v6 v7 w'=>∃(Z:List Int) (al:List Int) (B:Int),v7= .int .i64 B∧Aside0 (spec_l13Marks.l1 kq Z al B l0_0 l0_1=some (r1,r2))∧Aside0 (kq≤k1)∧Aside0 (Kd.R (Kd.int .i64) 2 w' w.heap.size (fun l=>some l≠(v6:Value).ownBlock) (.slice (some ⟨s,0,none⟩) I.length A) Z)∧Aside0 (Kd.R (Kd.int .i64) 2 w' w.heap.size (fun l=>some l≠((.slice (some ⟨s,0,none⟩) I.length A):Value).ownBlock) v6 al)∧Aside0 (w'.heap[Y]?=some (.cells #[(.slice A0_0 l0_0.length c0_0),(.slice A0_1 l0_1.length c0_1)] 32 (0,0)))∧Aside0 (Below w.heap.size w w'))
 case atStart=>exact⟨(y207),(y204),(0),sr,H',⟨Nat.le_refl _⟩,⟨by exact sE c.out⟩,⟨by(with_reducible repeat(first|apply Kd.R_alloc|apply Kd.R_drewN|apply Kd.R_drew));exact Kd.R_mono bj.out (fun _ hk=>hk.2)⟩,⟨by exact sT d.out⟩,⟨sb⟩⟩
 case round=>(
 clear H'
 try clear c5
 try clear c5b0
 try clear c9
 try clear c9b0
 try clear c9b1
 try clear L
 try clear O
 try clear aZ
 try clear aU
 try clear aV
 try clear aW
 try clear aX
 try clear ao
 try clear L
 try clear O
 obtain⟨Z,al,B,rfl,HA,K,c,x,d,HB⟩:=hrel
 have i:=(Kd.R_reads' c.out).1
 rw[i]at c
 (try simp only[i])
 (try simp only[i]at d)
 (try simp only[i]at x)
 cases gk with
 |zero=>exact absurd HA.out (by simp[spec_l13Marks.l1])
 |succ k2=>(
 have H:=HA.out
 clear HA
 simp only[spec_l13Marks.l1]at H
 by_cases ab:B<(l0_1.length:Int)
 ·(
 rw[if_pos ab]at H
 have c16b0:=zT ab
 clear ab
 by_cases bl:0≤B
 ·(
 rw[if_pos bl]at H
 have c17b0:=zT bl
 clear bl
 by_cases bm:0≤((rd_T51 l0_1 B).f1)
 ·(
 rw[if_pos bm]at H
 have c18b0:=zT bm
 clear bm
 by_cases bn:((rd_T51 l0_1 B).f1)<(Z.length:Int)
 ·(
 rw[if_pos bn]at H
 have c19b0:=zT bn
 clear bn
 obtain⟨y209,hy209⟩:∃J:List Int,J=(Z.set (((rd_T51 l0_1 B).f1):Int).toNat 0):=⟨_,rfl⟩
 replace H:(if al.length<17592186044416 then(spec_l13Marks.l1 k2 y209 (al++[(rd_T51 l0_1 B).f1]) (wrap64 (B+1)) l0_0 l0_1)else(none))=some (r1,r2):=by first|(rw[hy209];with_reducible exact H)|(have y:=(Option.bind_some _ _).symm.trans H;rw[hy209];with_reducible exact y)|(have y:=(Option.bind_some _ _).symm.trans H;with_reducible exact y)|with_reducible exact H|(rw[hy209];exact H)|exact H
 have cL:=zM hy209
 clear hy209
 by_cases bo:al.length<17592186044416
 ·(
 rw[if_pos bo]at H
 have cM:=zM bo
 clear bo
 obtain⟨y211,hy211⟩:∃J:List Int,J=(al++[(rd_T51 l0_1 B).f1]):=⟨_,rfl⟩
 replace H:(spec_l13Marks.l1 k2 y209 y211 (wrap64 (B+1)) l0_0 l0_1)=some (r1,r2):=by first|(rw[hy211];with_reducible exact H)|(have y:=(Option.bind_some _ _).symm.trans H;rw[hy211];with_reducible exact y)|(have y:=(Option.bind_some _ _).symm.trans H;with_reducible exact y)|with_reducible exact H|(rw[hy211];exact H)|exact H
 have cN:=zM hy211
 clear hy211
 have H':=zM H
 clear H
 obtain⟨dB,dC,dD,dE⟩:=cells2 d.out
 have bT:0≤(B:Int):=zzA
 have bU:B<(l0_1.length:Int):=zzA
 obtain⟨bV,cO,cr,ct⟩:=at_T51 cg.out B bT bU
 cases cO
 replace cr:=sX HB cr
 replace ct:=sX HB ct
 replace bT:=eq_true bT
 replace bU:=eq_true bU
 have bW:0≤(((rd_T51 l0_1 B).f1):Int):=zzA
 have bX:(((rd_T51 l0_1 B).f1):Int)<((Z.length:Int):Int):=zzA
 obtain⟨dF,dG⟩:=Kd.R_celln 0 c.out (((rd_T51 l0_1 B).f1):Int) bW bX
 replace bW:=eq_true bW
 replace bX:=eq_true bX
 have bY:=Kd.R_putg c.out (((rd_T51 l0_1 B).f1):Int) 0
 go_wp2_with (first|((with_reducible refine gate_store (t:=2) (p:=41) rfl ?_);refine store_event (t:=2) (p:=41) (v:=?vo_w24) (w1:=(wr.setCell ⟨s,(((rd_T51 l0_1 B).f1):Int).toNat,none⟩ (.int .i64 0))) ?hg ?ho ?hn ?hr ?_;(case ho=>rfl);(case hg=>rfl);(case hn=>rfl);(case hr=>first|(go_simp;done)|(go_simp;rfl));intro bZ hw;have hg:wr.grownBy bZ (some s):=(by rw[hw];exact bY.2);have ap:Kd.R (Kd.int .i64) 2 bZ w.heap.size (fun l=>some l≠(u6:Value).ownBlock) (.slice (some ⟨s,0,none⟩) Z.length A) y209:=(by rw[hw,cL.out];exact bY.1);clear bY;have T:=zM (ap);have U:=zM (Kd.R_after (v:=(.slice (some ⟨s,0,none⟩) Z.length A)) (v1:=(.slice (some ⟨s,0,none⟩) Z.length A)) (ok:=(fun _=>True)) (by(with_reducible repeat(first|apply Kd.R_alloc|apply Kd.R_drewN|apply Kd.R_drew));exact Kd.R_mono x.out (fun _ hk=>⟨trivial,hk⟩)) hg (.inl rfl));have V:=zM (blk_grown (g:=Y) (o:= .cells #[.slice A0_0 l0_0.length c0_0,.slice (some bV) l0_1.length c0_1] 32 (0,0)) (sT d.out) hg (Kd.R_ne c.out d.out (by decide)));have W:=zM ((by rw[hw];exact below_set (HB.out) bQ.out:Below w.heap.size w bZ));clear c;clear x;clear d;clear HB;have c:=T;have x:=U;have d:=V;have HB:=W;clear T U V W;clear hg hw ap;obtain⟨dH,dI,dJ,dK⟩:=cells2 d.out;have b0:0≤(B:Int):=zzA;have b1:B<(l0_1.length:Int):=zzA;obtain⟨ad210,cP,cu,cv⟩:=at_T51 cg.out B b0 b1;obtain rfl:bV=ad210:=(by injection cP);replace cu:=sX HB cu;replace cv:=sX HB cv;replace b0:=eq_true b0;replace b1:=eq_true b1)|((with_reducible refine gate_builtin (b:= .append) (xs:= #[.tmp 42,.tmp 49]) rfl ?_);at_builtin;refine Kd.R_append (Kd.int .i64) (w0:=w) w.heap.size rfl (.tmp 42) (.tmp 49) 52 2 (.int .i64 0) 8 rfl Try.underlying52 info2 rfl (by decide) (by omega) u6 al ((rd_T51 l0_1 B).f1) [.int .i64 ((rd_T51 l0_1 B).f1)] (fun l=>some l≠(.slice (some ⟨s,0,none⟩) Z.length A:Value).ownBlock) (fun _=>False) rfl rfl ?aP (fun _ hk=>hk.elim) ?aF ?aO ?aB ?aS ?aL ?_;(case aP=>exact rfl);(case aB=>exact zzR);(case aF=>exact(fun l hk=>Kd.fresh' (Kd.R_lt (sE c.out)) l hk));(case aO=>exact(by(with_reducible repeat(first|apply Kd.R_alloc|apply Kd.R_drewN|apply Kd.R_drew));exact Kd.R_mono x.out (fun _ hk=>hk.2)));(case aS=>exact(below_size zzR));(case aL=>have:=cM.out;omega);intro dL dM ho hb hg hat;rw[←cN.out]at ho;have T:=zM (Kd.R_after (ok:=(fun _=>True)) (by(with_reducible repeat(first|apply Kd.R_alloc|apply Kd.R_drewN|apply Kd.R_drew));exact Kd.R_mono c.out (fun _ hk=>⟨trivial,hk⟩)) hg hat);have U:=zM (blk_grown (g:=Y) (o:= .cells #[.slice A0_0 l0_0.length c0_0,.slice (some bV) l0_1.length c0_1] 32 (0,0)) (sT d.out) hg (Kd.R_ne x.out d.out (by decide)));have V:=zM (hb);have W:=zM (ho);clear c;clear d;clear HB;clear x;have c:=T;have d:=U;have HB:=V;have cQ:=W;clear T U V W;clear ho hb hg hat))
 (try simp only[←i])
 go_roundg k2
 case measure=>have:=F.out;have:=K.out;omega
 case rel=>exact⟨(y209),(y211),(wrap64 (B+1)),sr,H',⟨by have:=F.out;have:=K.out;omega⟩,⟨by(try simp only[i]);(with_reducible repeat(first|apply Kd.R_alloc|apply Kd.R_drewN|apply Kd.R_drew));exact Kd.R_mono c.out (fun _ hk=>hk.2)⟩,⟨by(try simp only[i]);exact sE cQ.out⟩,⟨by(try simp only[i]);exact sT d.out⟩,⟨sb⟩⟩)
 rw[if_neg bo]at H
 exact absurd H (by simp))
 rw[if_neg bn]at H
 exact absurd H (by simp))
 rw[if_neg bm]at H
 exact absurd H (by simp))
 rw[if_neg bl]at H
 exact absurd H (by simp))
 rw[if_neg ab]at H
 have c16b0:=zF ab
 clear ab
 have H':=zM H
 clear H
 obtain⟨a9,ba,bb,bc⟩:=cells2 d.out
 go_wp2
 go_loopg [6] k2 (fun kq v6 w'=>∃(q:List Int) (a:List Int),Aside0 (spec_l13Marks.l2 kq q a l0_0 l0_1=some (r1,r2))∧Aside0 (kq≤k2)∧Aside0 (Kd.R (Kd.int .i64) 2 w' w.heap.size (fun l=>some l≠(v6:Value).ownBlock) (.slice (some ⟨s,0,none⟩) Z.length A) q)∧Aside0 (Kd.R (Kd.int .i64) 2 w' w.heap.size (fun l=>some l≠((.slice (some ⟨s,0,none⟩) Z.length A):Value).ownBlock) v6 a)∧Aside0 (w'.heap[Y]?=some (.cells #[(.slice A0_0 l0_0.length c0_0),(.slice A0_1 l0_1.length c0_1)] 32 (0,0)))∧Aside0 (Below w.heap.size w w'))
 case atStart=>exact⟨(Z),(al),H',⟨Nat.le_refl _⟩,⟨by(try simp only[i]);exact sE c.out⟩,⟨by(try simp only[i]);exact sE x.out⟩,⟨by(try simp only[i]);exact sT d.out⟩,⟨sb⟩⟩
 case round=>(
 clear H'
 try clear c5
 try clear c5b0
 try clear c9
 try clear c9b0
 try clear c9b1
 try clear L
 try clear O
 try clear aZ
 try clear ab
 try clear c16b0
 try clear aU
 try clear aV
 try clear a9
 try clear ba
 try clear aW
 try clear aX
 try clear bb
 try clear bc
 try clear ao
 try clear L
 try clear O
 obtain⟨q,a,HA,Q,c,x,d,HB⟩:=hrel
 have j:=(Kd.R_reads' c.out).1
 rw[j]at c
 (try simp only[j])
 (try simp only[j]at d)
 (try simp only[j]at x)
 cases gk with
 |zero=>exact absurd HA.out (by simp[spec_l13Marks.l2])
 |succ k3=>(
 have H:=HA.out
 clear HA
 simp only[spec_l13Marks.l2]at H
 by_cases ai:(a.length:Int)>0
 ·(
 rw[if_pos ai]at H
 have c28b0:decide (0<(a.length:Int))=true:=zT ai
 have c28b1:decide (0<a.length)=true:=zT (by omega)
 clear ai
 obtain⟨ji29,hji29⟩:∃j_:Int,(wrap64 ((a.length:Int)- 1))=j_:=⟨_,rfl⟩
 replace H:(if 0≤(ji29)then(if(ji29)<(a.length:Int)then(if(ji29)≤(a.length:Int)then((some (a.take ((ji29):Int).toNat:List Int)).bind fun D=>(if 0≤(rd a (ji29))then(if(rd a (ji29))<(l0_0.length:Int)then(if(rd a (ji29))<(q.length:Int)then(if((rd_T55 l0_0 (rd a (ji29))).f0)=34 then(spec_l13Marks.j5 k3 q D (rd a (ji29)) (wrap64 ((rd q (rd a (ji29)))+1)) l0_0 l0_1 ((rd_T55 l0_0 (rd a (ji29))).f0) ((rd_T55 l0_0 (rd a (ji29))).f1) ((rd_T55 l0_0 (rd a (ji29))).f2))else(if((rd_T55 l0_0 (rd a (ji29))).f0)=35 then(spec_l13Marks.j3 k3 q D (rd a (ji29)) (rd q (rd a (ji29))) ((rd_T55 l0_0 (rd a (ji29))).f0) (((rd_T55 l0_0 (rd a (ji29))).f0)==35) l0_0 l0_1 ((rd_T55 l0_0 (rd a (ji29))).f0) ((rd_T55 l0_0 (rd a (ji29))).f1) ((rd_T55 l0_0 (rd a (ji29))).f2))else(if((rd_T55 l0_0 (rd a (ji29))).f0)=36 then(spec_l13Marks.j3 k3 q D (rd a (ji29)) (rd q (rd a (ji29))) ((rd_T55 l0_0 (rd a (ji29))).f0) (((rd_T55 l0_0 (rd a (ji29))).f0)==36) l0_0 l0_1 ((rd_T55 l0_0 (rd a (ji29))).f0) ((rd_T55 l0_0 (rd a (ji29))).f1) ((rd_T55 l0_0 (rd a (ji29))).f2))else(spec_l13Marks.j3 k3 q D (rd a (ji29)) (rd q (rd a (ji29))) ((rd_T55 l0_0 (rd a (ji29))).f0) (((rd_T55 l0_0 (rd a (ji29))).f0)==37) l0_0 l0_1 ((rd_T55 l0_0 (rd a (ji29))).f0) ((rd_T55 l0_0 (rd a (ji29))).f1) ((rd_T55 l0_0 (rd a (ji29))).f2)))))else(none))else(none))else(none)))else(none))else(none))else(none))=some (r1,r2):=by first|(rw[hji29]at H;exact H)|(simp only[hji29]at H ⊢;exact H)
 have hji29w:(IntKind.i64.wrap ((a.length:Int)- 1))=ji29:=(i64_w _).trans hji29
 by_cases aq:0≤(ji29)
 ·(
 rw[if_pos aq]at H
 have c30b0:=zT aq
 clear aq
 by_cases ar:(ji29)<(a.length:Int)
 ·(
 rw[if_pos ar]at H
 have c31b0:=zT ar
 clear ar
 by_cases am:(ji29)≤(a.length:Int)
 ·(
 rw[if_pos am]at H
 have c32b0:=eq_true am
 have c32b1:=zT am
 clear am
 obtain⟨D,hy215⟩:∃J:List Int,J=(a.take ((ji29):Int).toNat):=⟨_,rfl⟩
 replace H:(if 0≤(rd a (ji29))then(if(rd a (ji29))<(l0_0.length:Int)then(if(rd a (ji29))<(q.length:Int)then(if((rd_T55 l0_0 (rd a (ji29))).f0)=34 then(spec_l13Marks.j5 k3 q D (rd a (ji29)) (wrap64 ((rd q (rd a (ji29)))+1)) l0_0 l0_1 ((rd_T55 l0_0 (rd a (ji29))).f0) ((rd_T55 l0_0 (rd a (ji29))).f1) ((rd_T55 l0_0 (rd a (ji29))).f2))else(if((rd_T55 l0_0 (rd a (ji29))).f0)=35 then(spec_l13Marks.j3 k3 q D (rd a (ji29)) (rd q (rd a (ji29))) ((rd_T55 l0_0 (rd a (ji29))).f0) (((rd_T55 l0_0 (rd a (ji29))).f0)==35) l0_0 l0_1 ((rd_T55 l0_0 (rd a (ji29))).f0) ((rd_T55 l0_0 (rd a (ji29))).f1) ((rd_T55 l0_0 (rd a (ji29))).f2))else(if((rd_T55 l0_0 (rd a (ji29))).f0)=36 then(spec_l13Marks.j3 k3 q D (rd a (ji29)) (rd q (rd a (ji29))) ((rd_T55 l0_0 (rd a (ji29))).f0) (((rd_T55 l0_0 (rd a (ji29))).f0)==36) l0_0 l0_1 ((rd_T55 l0_0 (rd a (ji29))).f0) ((rd_T55 l0_0 (rd a (ji29))).f1) ((rd_T55 l0_0 (rd a (ji29))).f2))else(spec_l13Marks.j3 k3 q D (rd a (ji29)) (rd q (rd a (ji29))) ((rd_T55 l0_0 (rd a (ji29))).f0) (((rd_T55 l0_0 (rd a (ji29))).f0)==37) l0_0 l0_1 ((rd_T55 l0_0 (rd a (ji29))).f0) ((rd_T55 l0_0 (rd a (ji29))).f1) ((rd_T55 l0_0 (rd a (ji29))).f2)))))else(none))else(none))else(none))=some (r1,r2):=by first|(rw[hy215];with_reducible exact H)|(have y:=(Option.bind_some _ _).symm.trans H;rw[hy215];with_reducible exact y)|(have y:=(Option.bind_some _ _).symm.trans H;with_reducible exact y)|with_reducible exact H|(rw[hy215];exact H)|exact H
 have cw:=zM hy215
 clear hy215
 by_cases au:0≤(rd a (ji29))
 ·(
 rw[if_pos au]at H
 have c33b0:=zT au
 clear au
 by_cases av:(rd a (ji29))<(l0_0.length:Int)
 ·(
 rw[if_pos av]at H
 have c34b0:=zT av
 clear av
 by_cases aw:(rd a (ji29))<(q.length:Int)
 ·(
 rw[if_pos aw]at H
 have c35b0:=zT aw
 clear aw
 have b2:=zM H
 clear H
 obtain⟨dN,ay,cR⟩:=Kd.R_slice x.out
 subst cR
 have az:0≤((ji29):Int):=zzA
 have aA:(ji29)<(a.length:Int):=zzA
 obtain⟨aC,cS,bp⟩:=Kd.at_int (Kd.R_reads' x.out).2.2 (ji29) az aA
 cases cS
 replace az:=eq_true az
 replace aA:=eq_true aA
 have ac:((ji29):Int)≤((a.length:Int):Int):=zzA
 obtain⟨dO,cx,_,cT,_⟩:=info_parts info2
 have cU:=cut_to (P:=Try.prog) 52 2 .i64 Try.underlying52 cx (some aC) a.length ay (ji29) (zzA) ac (Kd.R_reads' x.out).2.1
 have bq:=Kd.R_take (m:=((ji29):Int).toNat) x.out (by omega)
 have cy:D.length=((ji29):Int).toNat:=(by rw[cw.out,List.length_take];omega)
 rw[←cw.out]at bq
 rw[←cy]at bq cU
 clear cy cx cT x
 have a0:=zM bq
 clear bq
 replace ac:=eq_true ac
 obtain⟨br,bs,bt,bu⟩:=cells2 d.out
 have aD:0≤((rd a (ji29)):Int):=zzA
 have aE:(rd a (ji29))<(l0_0.length:Int):=zzA
 obtain⟨a1,cV,a2,a3,a4⟩:=at_T55 cC.out (rd a (ji29)) aD aE
 cases cV
 replace a2:=sX HB a2
 replace a3:=sX HB a3
 replace a4:=sX HB a4
 replace aD:=eq_true aD
 replace aE:=eq_true aE
 go_upto_block 6 with(first|((with_reducible refine gate_dst (N:=9) rfl ?_);refine sV (N:=9) (cs:= #[.int .i64 0,.int .i64 0,.string (⟨#[]⟩:ByteArray)]) (t:=55) ?_;intro gb219 hg dP hbox hb;replace c:=zM (Kd.R_below (sE c.out) hb);replace a0:=zM (Kd.R_below (sE a0.out) hb);have u:=zM (hbox);have dQ:=sG HB hg;have b3:=sG HB hg;replace HB:=sB HB hb;have X:=sN d hg;have cz:=sM d hg;replace d:=sK d hb;clear hb hbox hg;have dR:=cz.out;have dS:=X.out;obtain⟨bv,bw,bx,bz,bA,bB⟩:=cells3 u.out;have aG:0≤((rd a (ji29)):Int):=zzA;have aH:(rd a (ji29))<(q.length:Int):=zzA;obtain⟨ad220,cW,aa⟩:=Kd.at_int (Kd.R_reads' c.out).2.2 (rd a (ji29)) aG aH;obtain rfl:(⟨s,0,none⟩:Addr)=ad220:=(by injection cW);(first|simp only[add_plain]at aa|simp only[add_at]at aa|simp only[Addr.add,Nat.zero_add]at aa|skip);have bC:(⟨s,0,none⟩:Addr).block≠gb219:=Kd.own_blk (Kd.R_ne c.out u.out (by decide));have bD:(⟨s,0,none⟩:Addr).block≠gb219:=Kd.own_blk (Kd.R_ne c.out u.out (by decide));have bE:(⟨s,0,none⟩:Addr).block≠gb219:=Kd.own_blk (Kd.R_ne c.out u.out (by decide));replace aa:=(cell_far (p:=⟨gb219,0,none⟩) (zzK bC) (.int .i64 ((rd_T55 l0_0 (rd a (ji29))).f0))).trans aa;replace aa:=(cell_far (p:=⟨gb219,1,none⟩) (zzK bD) (.int .i64 ((rd_T55 l0_0 (rd a (ji29))).f1))).trans aa;replace aa:=(cell_far (p:=⟨gb219,2,none⟩) (zzK bE) (.string ((rd_T55 l0_0 (rd a (ji29))).f2))).trans aa;clear bC;clear bD;clear bE;replace aG:=eq_true aG;replace aH:=eq_true aH))
 (try simp only[zP])
 go_cut [10] (fun cX wc=>∃(kq:Nat) (S:Int),cX= .int .i64 S∧Aside0 (spec_l13Marks.j5 kq q D (rd a (ji29)) S l0_0 l0_1 ((rd_T55 l0_0 (rd a (ji29))).f0) ((rd_T55 l0_0 (rd a (ji29))).f1) ((rd_T55 l0_0 (rd a (ji29))).f2)=some (r1,r2))∧Aside0 (kq≤k3)∧Aside0 (Kd.R (Kd.int .i64) 2 wc w.heap.size (fun l=>some l≠((.slice (some aC) D.length ay):Value).ownBlock) (.slice (some ⟨s,0,none⟩) q.length A) q)∧Aside0 (Kd.R (Kd.int .i64) 2 wc w.heap.size (fun l=>some l≠((.slice (some ⟨s,0,none⟩) q.length A):Value).ownBlock) (.slice (some aC) D.length ay) D)∧Aside0 (wc.heap[Y]?=some (.cells #[(.slice (some a1) l0_0.length c0_0),(.slice A0_1 l0_1.length c0_1)] 32 (0,0)))∧Aside0 (wc.heap[gb219]?=some (.cells #[.int .i64 ((rd_T55 l0_0 (rd a (ji29))).f0),.int .i64 ((rd_T55 l0_0 (rd a (ji29))).f1),.string ((rd_T55 l0_0 (rd a (ji29))).f2)] 55 (0,0)))∧Aside0 (Below w.heap.size w wc))
 case first=>(
 have H:=b2.out
 clear b2
 by_cases an:((rd_T55 l0_0 (rd a (ji29))).f0)=34
 ·(
 rw[if_pos an]at H
 have c43b0:(((rd_T55 l0_0 (rd a (ji29))).f0)==34)=true:=zE an
 have c43b1:(((rd_T55 l0_0 (rd a (ji29))).f0) !=34)=false:=zY an
 clear an
 (first|rw[c43b0]|(simp only[i64_w,i32_w];rw[c43b0])|rw[c43b2]|skip)
 have H':=zM H
 clear H
 go_wp2
 go_meet
 case rel=>exact⟨_,(wrap64 ((rd q (rd a (ji29)))+1)),(by first|rfl|(simp;done)|((simp only[←hji29]<;>(first|rfl|simp));done)|(simp only[←hji29];first|assumption|(simp;assumption)|(simp_all;done))|(simp[*];done)),H',⟨by have:=F.out;have:=K.out;have:=Q.out;first|omega|exact Nat.le_refl _⟩,⟨by(try simp only[i]);(try simp only[j]);(with_reducible repeat(first|apply Kd.R_alloc|apply Kd.R_drewN|apply Kd.R_drew));exact Kd.R_mono (sRF3 (g:=gb219) (Kd.R_types c.out u.out (by decide)) (fun _ hk=>hk.2)) (fun _ hk=>hk.1)⟩,⟨by(try simp only[i]);(try simp only[j]);(with_reducible repeat(first|apply Kd.R_alloc|apply Kd.R_drewN|apply Kd.R_drew));exact Kd.R_mono (sRF3 (g:=gb219) (Kd.R_types a0.out u.out (by decide)) (fun _ hk=>hk.2)) (fun _ hk=>hk.1)⟩,⟨by(try simp only[i]);(try simp only[j]);(with_reducible repeat(first|refine blk_drewN ?_ _|refine blk_drew ?_|refine blk_alloc ?_ _));refine blk_far ?_ X.out _;(with_reducible repeat(first|refine blk_drewN ?_ _|refine blk_drew ?_|refine blk_alloc ?_ _));refine blk_far ?_ X.out _;(with_reducible repeat(first|refine blk_drewN ?_ _|refine blk_drew ?_|refine blk_alloc ?_ _));refine blk_far ?_ X.out _;exact sT d.out⟩,⟨by(try simp only[i]);(try simp only[j]);exact sP3 (sT u.out)⟩,⟨sb⟩⟩)
 rw[if_neg an]at H
 have c43b0:(((rd_T55 l0_0 (rd a (ji29))).f0)==34)=false:=zN an
 have c43b1:(((rd_T55 l0_0 (rd a (ji29))).f0) !=34)=true:=zX an
 (first|rw[c43b0]|(simp only[i64_w,i32_w];rw[c43b0])|rw[c43b2]|skip)
 have b4:=zM H
 clear H
 go_upto_if 80 with(fail)
 go_cut [80] (fun cY wc=>∃(kq:Nat) (bF:Bool),cY= .bool bF∧Aside0 (spec_l13Marks.j3 kq q D (rd a (ji29)) (rd q (rd a (ji29))) ((rd_T55 l0_0 (rd a (ji29))).f0) bF l0_0 l0_1 ((rd_T55 l0_0 (rd a (ji29))).f0) ((rd_T55 l0_0 (rd a (ji29))).f1) ((rd_T55 l0_0 (rd a (ji29))).f2)=some (r1,r2))∧Aside0 (kq≤k3)∧Aside0 (Kd.R (Kd.int .i64) 2 wc w.heap.size (fun l=>some l≠((.slice (some aC) D.length ay):Value).ownBlock) (.slice (some ⟨s,0,none⟩) q.length A) q)∧Aside0 (Kd.R (Kd.int .i64) 2 wc w.heap.size (fun l=>some l≠((.slice (some ⟨s,0,none⟩) q.length A):Value).ownBlock) (.slice (some aC) D.length ay) D)∧Aside0 (wc.heap[Y]?=some (.cells #[(.slice (some a1) l0_0.length c0_0),(.slice A0_1 l0_1.length c0_1)] 32 (0,0)))∧Aside0 (wc.heap[gb219]?=some (.cells #[.int .i64 ((rd_T55 l0_0 (rd a (ji29))).f0),.int .i64 ((rd_T55 l0_0 (rd a (ji29))).f1),.string ((rd_T55 l0_0 (rd a (ji29))).f2)] 55 (0,0)))∧Aside0 (Below w.heap.size w wc))
 case first=>(
 have H:=b4.out
 clear b4
 by_cases aI:((rd_T55 l0_0 (rd a (ji29))).f0)=35
 ·(
 rw[if_pos aI]at H
 have c45b0:(((rd_T55 l0_0 (rd a (ji29))).f0)==35)=true:=zE aI
 have c45b1:(((rd_T55 l0_0 (rd a (ji29))).f0) !=35)=false:=zY aI
 clear aI
 (first|rw[c45b0]|(simp only[i64_w,i32_w];rw[c45b0])|rw[c45b2]|skip)
 have H':=zM H
 clear H
 go_wp2
 go_meet
 case rel=>exact⟨_,((((rd_T55 l0_0 (rd a (ji29))).f0)==35)),(by first|rfl|(simp;done)|((simp only[←hji29]<;>(first|rfl|simp));done)|(simp only[←hji29];first|assumption|(simp;assumption)|(simp_all;done))|(simp[*];done)),H',⟨by have:=F.out;have:=K.out;have:=Q.out;first|omega|exact Nat.le_refl _⟩,⟨by(try simp only[i]);(try simp only[j]);(with_reducible repeat(first|apply Kd.R_alloc|apply Kd.R_drewN|apply Kd.R_drew));exact Kd.R_mono (sRF3 (g:=gb219) (Kd.R_types c.out u.out (by decide)) (fun _ hk=>hk.2)) (fun _ hk=>hk.1)⟩,⟨by(try simp only[i]);(try simp only[j]);(with_reducible repeat(first|apply Kd.R_alloc|apply Kd.R_drewN|apply Kd.R_drew));exact Kd.R_mono (sRF3 (g:=gb219) (Kd.R_types a0.out u.out (by decide)) (fun _ hk=>hk.2)) (fun _ hk=>hk.1)⟩,⟨by(try simp only[i]);(try simp only[j]);(with_reducible repeat(first|refine blk_drewN ?_ _|refine blk_drew ?_|refine blk_alloc ?_ _));refine blk_far ?_ X.out _;(with_reducible repeat(first|refine blk_drewN ?_ _|refine blk_drew ?_|refine blk_alloc ?_ _));refine blk_far ?_ X.out _;(with_reducible repeat(first|refine blk_drewN ?_ _|refine blk_drew ?_|refine blk_alloc ?_ _));refine blk_far ?_ X.out _;exact sT d.out⟩,⟨by(try simp only[i]);(try simp only[j]);exact sP3 (sT u.out)⟩,⟨sb⟩⟩)
 rw[if_neg aI]at H
 have c45b0:(((rd_T55 l0_0 (rd a (ji29))).f0)==35)=false:=zN aI
 have c45b1:(((rd_T55 l0_0 (rd a (ji29))).f0) !=35)=true:=zX aI
 (first|rw[c45b0]|(simp only[i64_w,i32_w];rw[c45b0])|rw[c45b2]|skip)
 by_cases aJ:((rd_T55 l0_0 (rd a (ji29))).f0)=36
 ·(
 rw[if_pos aJ]at H
 have c46b0:(((rd_T55 l0_0 (rd a (ji29))).f0)==36)=true:=zE aJ
 have c46b1:(((rd_T55 l0_0 (rd a (ji29))).f0) !=36)=false:=zY aJ
 clear aJ
 have H':=zM H
 clear H
 go_wp2
 go_meet
 case rel=>exact⟨_,((((rd_T55 l0_0 (rd a (ji29))).f0)==36)),(by first|rfl|(simp;done)|((simp only[←hji29]<;>(first|rfl|simp));done)|(simp only[←hji29];first|assumption|(simp;assumption)|(simp_all;done))|(simp[*];done)),H',⟨by have:=F.out;have:=K.out;have:=Q.out;first|omega|exact Nat.le_refl _⟩,⟨by(try simp only[i]);(try simp only[j]);(with_reducible repeat(first|apply Kd.R_alloc|apply Kd.R_drewN|apply Kd.R_drew));exact Kd.R_mono (sRF3 (g:=gb219) (Kd.R_types c.out u.out (by decide)) (fun _ hk=>hk.2)) (fun _ hk=>hk.1)⟩,⟨by(try simp only[i]);(try simp only[j]);(with_reducible repeat(first|apply Kd.R_alloc|apply Kd.R_drewN|apply Kd.R_drew));exact Kd.R_mono (sRF3 (g:=gb219) (Kd.R_types a0.out u.out (by decide)) (fun _ hk=>hk.2)) (fun _ hk=>hk.1)⟩,⟨by(try simp only[i]);(try simp only[j]);(with_reducible repeat(first|refine blk_drewN ?_ _|refine blk_drew ?_|refine blk_alloc ?_ _));refine blk_far ?_ X.out _;(with_reducible repeat(first|refine blk_drewN ?_ _|refine blk_drew ?_|refine blk_alloc ?_ _));refine blk_far ?_ X.out _;(with_reducible repeat(first|refine blk_drewN ?_ _|refine blk_drew ?_|refine blk_alloc ?_ _));refine blk_far ?_ X.out _;exact sT d.out⟩,⟨by(try simp only[i]);(try simp only[j]);exact sP3 (sT u.out)⟩,⟨sb⟩⟩)
 rw[if_neg aJ]at H
 have c46b0:(((rd_T55 l0_0 (rd a (ji29))).f0)==36)=false:=zN aJ
 have c46b1:(((rd_T55 l0_0 (rd a (ji29))).f0) !=36)=true:=zX aJ
 have H':=zM H
 clear H
 go_wp2
 go_meet
 case rel=>exact⟨_,((((rd_T55 l0_0 (rd a (ji29))).f0)==37)),(by first|rfl|(simp;done)|((simp only[←hji29]<;>(first|rfl|simp));done)|(simp only[←hji29];first|assumption|(simp;assumption)|(simp_all;done))|(simp[*];done)),H',⟨by have:=F.out;have:=K.out;have:=Q.out;first|omega|exact Nat.le_refl _⟩,⟨by(try simp only[i]);(try simp only[j]);(with_reducible repeat(first|apply Kd.R_alloc|apply Kd.R_drewN|apply Kd.R_drew));exact Kd.R_mono (sRF3 (g:=gb219) (Kd.R_types c.out u.out (by decide)) (fun _ hk=>hk.2)) (fun _ hk=>hk.1)⟩,⟨by(try simp only[i]);(try simp only[j]);(with_reducible repeat(first|apply Kd.R_alloc|apply Kd.R_drewN|apply Kd.R_drew));exact Kd.R_mono (sRF3 (g:=gb219) (Kd.R_types a0.out u.out (by decide)) (fun _ hk=>hk.2)) (fun _ hk=>hk.1)⟩,⟨by(try simp only[i]);(try simp only[j]);(with_reducible repeat(first|refine blk_drewN ?_ _|refine blk_drew ?_|refine blk_alloc ?_ _));refine blk_far ?_ X.out _;(with_reducible repeat(first|refine blk_drewN ?_ _|refine blk_drew ?_|refine blk_alloc ?_ _));refine blk_far ?_ X.out _;(with_reducible repeat(first|refine blk_drewN ?_ _|refine blk_drew ?_|refine blk_alloc ?_ _));refine blk_far ?_ X.out _;exact sT d.out⟩,⟨by(try simp only[i]);(try simp only[j]);exact sP3 (sT u.out)⟩,⟨sb⟩⟩)
 case rest=>(
 clear b4
 try clear c5
 try clear c5b0
 try clear c9
 try clear c9b0
 try clear c9b1
 try clear L
 try clear O
 try clear aZ
 try clear ab
 try clear c16b0
 try clear ai
 try clear c28b0
 try clear c28b1
 try clear aq
 try clear c30b0
 try clear ar
 try clear c31b0
 try clear am
 try clear c32b0
 try clear c32b1
 try clear au
 try clear c33b0
 try clear av
 try clear c34b0
 try clear aw
 try clear c35b0
 try clear ac
 try clear an
 try clear c43b0
 try clear c43b1
 try clear c43b2
 try clear aU
 try clear aV
 try clear a9
 try clear ba
 try clear br
 try clear bs
 try clear bv
 try clear bw
 try clear bx
 try clear aW
 try clear aX
 try clear bb
 try clear bc
 try clear bt
 try clear bu
 try clear bz
 try clear bA
 try clear bB
 try clear ao
 try clear bp
 try clear a2
 try clear a3
 try clear a4
 try clear aa
 try clear L
 try clear az
 try clear aD
 try clear aG
 try clear O
 try clear aA
 try clear aE
 try clear aH
 try clear ac
 obtain⟨kq,bF,rfl,HA,bd,c,x,d,u,HB⟩:=hcut
 cases kq with
 |zero=>exact absurd HA.out (by simp[spec_l13Marks.j3])
 |succ kj43=>(
 have H:=HA.out
 clear HA
 simp only[spec_l13Marks.j3]at H
 by_cases be:bF=true
 ·(
 subst be
 rewrite[if_pos rfl]at H
 have H':=zM H
 clear H
 go_wp2
 go_meet
 case rel=>exact⟨_,(wrap64 ((rd q (rd a (ji29)))- 1)),(by first|rfl|(simp;done)|((simp only[←hji29]<;>(first|rfl|simp));done)|(simp only[←hji29];first|assumption|(simp;assumption)|(simp_all;done))|(simp[*];done)),H',⟨by have:=F.out;have:=K.out;have:=Q.out;have:=bd.out;first|omega|exact Nat.le_refl _⟩,⟨by(try simp only[i]);(try simp only[j]);exact sE c.out⟩,⟨by(try simp only[i]);(try simp only[j]);exact sE x.out⟩,⟨by(try simp only[i]);(try simp only[j]);exact sT d.out⟩,⟨by(try simp only[i]);(try simp only[j]);exact sT u.out⟩,⟨sb⟩⟩)
 replace be:=zB be
 subst be
 rewrite[if_neg zQ]at H
 have b5:=zM H
 clear H
 go_upto_if 86 with(fail)
 go_cut [86] (fun cZ wc=>∃(kq:Nat) (bG:Bool),cZ= .bool bG∧Aside0 (spec_l13Marks.j4 kq q D (rd a (ji29)) (rd q (rd a (ji29))) bG l0_0 l0_1 ((rd_T55 l0_0 (rd a (ji29))).f0) ((rd_T55 l0_0 (rd a (ji29))).f1) ((rd_T55 l0_0 (rd a (ji29))).f2)=some (r1,r2))∧Aside0 (kq≤kj43)∧Aside0 (Kd.R (Kd.int .i64) 2 wc w.heap.size (fun l=>some l≠((.slice (some aC) D.length ay):Value).ownBlock) (.slice (some ⟨s,0,none⟩) q.length A) q)∧Aside0 (Kd.R (Kd.int .i64) 2 wc w.heap.size (fun l=>some l≠((.slice (some ⟨s,0,none⟩) q.length A):Value).ownBlock) (.slice (some aC) D.length ay) D)∧Aside0 (wc.heap[Y]?=some (.cells #[(.slice (some a1) l0_0.length c0_0),(.slice A0_1 l0_1.length c0_1)] 32 (0,0)))∧Aside0 (wc.heap[gb219]?=some (.cells #[.int .i64 ((rd_T55 l0_0 (rd a (ji29))).f0),.int .i64 ((rd_T55 l0_0 (rd a (ji29))).f1),.string ((rd_T55 l0_0 (rd a (ji29))).f2)] 55 (0,0)))∧Aside0 (Below w.heap.size w wc))
 case first=>(
 have H:=b5.out
 clear b5
 by_cases aK:((rd_T55 l0_0 (rd a (ji29))).f0)=39
 ·(
 rw[if_pos aK]at H
 have c49b0:(((rd_T55 l0_0 (rd a (ji29))).f0)==39)=true:=zE aK
 have c49b1:(((rd_T55 l0_0 (rd a (ji29))).f0) !=39)=false:=zY aK
 clear aK
 (first|rw[c49b0]|(simp only[i64_w,i32_w];rw[c49b0])|rw[c49b2]|skip)
 have H':=zM H
 clear H
 go_wp2
 go_meet
 case rel=>exact⟨_,((((rd_T55 l0_0 (rd a (ji29))).f0)==39)),(by first|rfl|(simp;done)|((simp only[←hji29]<;>(first|rfl|simp));done)|(simp only[←hji29];first|assumption|(simp;assumption)|(simp_all;done))|(simp[*];done)),H',⟨by have:=F.out;have:=K.out;have:=Q.out;have:=bd.out;first|omega|exact Nat.le_refl _⟩,⟨by(try simp only[i]);(try simp only[j]);exact sE c.out⟩,⟨by(try simp only[i]);(try simp only[j]);exact sE x.out⟩,⟨by(try simp only[i]);(try simp only[j]);exact sT d.out⟩,⟨by(try simp only[i]);(try simp only[j]);exact sT u.out⟩,⟨sb⟩⟩)
 rw[if_neg aK]at H
 have c49b0:(((rd_T55 l0_0 (rd a (ji29))).f0)==39)=false:=zN aK
 have c49b1:(((rd_T55 l0_0 (rd a (ji29))).f0) !=39)=true:=zX aK
 (first|rw[c49b0]|(simp only[i64_w,i32_w];rw[c49b0])|rw[c49b2]|skip)
 have H':=zM H
 clear H
 go_wp2
 go_meet
 case rel=>exact⟨_,((((rd_T55 l0_0 (rd a (ji29))).f0)==38)),(by first|rfl|(simp;done)|((simp only[←hji29]<;>(first|rfl|simp));done)|(simp only[←hji29];first|assumption|(simp;assumption)|(simp_all;done))|(simp[*];done)),H',⟨by have:=F.out;have:=K.out;have:=Q.out;have:=bd.out;first|omega|exact Nat.le_refl _⟩,⟨by(try simp only[i]);(try simp only[j]);exact sE c.out⟩,⟨by(try simp only[i]);(try simp only[j]);exact sE x.out⟩,⟨by(try simp only[i]);(try simp only[j]);exact sT d.out⟩,⟨by(try simp only[i]);(try simp only[j]);exact sT u.out⟩,⟨sb⟩⟩)
 case rest=>(
 clear b5
 try clear c5
 try clear c5b0
 try clear c9
 try clear c9b0
 try clear c9b1
 try clear L
 try clear O
 try clear aZ
 try clear ab
 try clear c16b0
 try clear ai
 try clear c28b0
 try clear c28b1
 try clear aq
 try clear c30b0
 try clear ar
 try clear c31b0
 try clear am
 try clear c32b0
 try clear c32b1
 try clear au
 try clear c33b0
 try clear av
 try clear c34b0
 try clear aw
 try clear c35b0
 try clear ac
 try clear an
 try clear c43b0
 try clear c43b1
 try clear c43b2
 try clear be
 try clear aU
 try clear aV
 try clear a9
 try clear ba
 try clear br
 try clear bs
 try clear bv
 try clear bw
 try clear bx
 try clear aW
 try clear aX
 try clear bb
 try clear bc
 try clear bt
 try clear bu
 try clear bz
 try clear bA
 try clear bB
 try clear ao
 try clear bp
 try clear a2
 try clear a3
 try clear a4
 try clear aa
 try clear L
 try clear az
 try clear aD
 try clear aG
 try clear O
 try clear aA
 try clear aE
 try clear aH
 try clear ac
 obtain⟨kq,bG,rfl,HA,cA,c,x,d,u,HB⟩:=hcut
 cases kq with
 |zero=>exact absurd HA.out (by simp[spec_l13Marks.j4])
 |succ kj47=>(
 have H:=HA.out
 clear HA
 simp only[spec_l13Marks.j4]at H
 by_cases bH:bG=true
 ·(
 subst bH
 rewrite[if_pos rfl]at H
 by_cases aM:(rd q (rd a (ji29)))=0
 ·(
 rw[if_pos aM]at H
 have c51b0:((rd q (rd a (ji29)))==0)=true:=zE aM
 have c51b1:((rd q (rd a (ji29))) !=0)=false:=zY aM
 clear aM
 have H':=zM H
 clear H
 go_wp2
 go_meet
 case rel=>exact⟨_,((rd q (rd a (ji29)))),(by first|rfl|(simp;done)|((simp only[←hji29]<;>(first|rfl|simp));done)|(simp only[←hji29];first|assumption|(simp;assumption)|(simp_all;done))|(simp[*];done)),H',⟨by have:=F.out;have:=K.out;have:=Q.out;have:=bd.out;have:=cA.out;first|omega|exact Nat.le_refl _⟩,⟨by(try simp only[i]);(try simp only[j]);exact sE c.out⟩,⟨by(try simp only[i]);(try simp only[j]);exact sE x.out⟩,⟨by(try simp only[i]);(try simp only[j]);exact sT d.out⟩,⟨by(try simp only[i]);(try simp only[j]);exact sT u.out⟩,⟨sb⟩⟩)
 rw[if_neg aM]at H
 have c51b0:((rd q (rd a (ji29)))==0)=false:=zN aM
 have c51b1:((rd q (rd a (ji29))) !=0)=true:=zX aM
 simp only[Option.some.injEq,Prod.mk.injEq]at H
 obtain⟨rfl,rfl⟩:=H
 go_wp2
 go_ret2
 exact⟨_,by first|rfl|(simp[errW_none,errW_some]<;>rfl)|(simp only[←hji29];first|rfl|(simp[errW_none,errW_some]<;>rfl))|(simp[*,errW_none,errW_some]<;>rfl),by first|exact Kd.R_nil _ _ _ _ _|exact Kd.N_nil _ _ _ _ _|exact Kd.V_nil _ _ _ _ _|exact Kd.Q_nil _ _ _ _ _|exact Kd.S_nil _ _ _ _ _,sb⟩)
 replace bH:=zB bH
 subst bH
 rewrite[if_neg zQ]at H
 have H':=zM H
 clear H
 go_wp2
 go_meet
 case rel=>exact⟨_,((rd q (rd a (ji29)))),(by first|rfl|(simp;done)|((simp only[←hji29]<;>(first|rfl|simp));done)|(simp only[←hji29];first|assumption|(simp;assumption)|(simp_all;done))|(simp[*];done)),H',⟨by have:=F.out;have:=K.out;have:=Q.out;have:=bd.out;have:=cA.out;first|omega|exact Nat.le_refl _⟩,⟨by(try simp only[i]);(try simp only[j]);exact sE c.out⟩,⟨by(try simp only[i]);(try simp only[j]);exact sE x.out⟩,⟨by(try simp only[i]);(try simp only[j]);exact sT d.out⟩,⟨by(try simp only[i]);(try simp only[j]);exact sT u.out⟩,⟨sb⟩⟩)))))
 case rest=>(
 clear b2
 try clear c5
 try clear c5b0
 try clear c9
 try clear c9b0
 try clear c9b1
 try clear L
 try clear O
 try clear aZ
 try clear ab
 try clear c16b0
 try clear ai
 try clear c28b0
 try clear c28b1
 try clear aq
 try clear c30b0
 try clear ar
 try clear c31b0
 try clear am
 try clear c32b0
 try clear c32b1
 try clear au
 try clear c33b0
 try clear av
 try clear c34b0
 try clear aw
 try clear c35b0
 try clear ac
 try clear aU
 try clear aV
 try clear a9
 try clear ba
 try clear br
 try clear bs
 try clear bv
 try clear bw
 try clear bx
 try clear aW
 try clear aX
 try clear bb
 try clear bc
 try clear bt
 try clear bu
 try clear bz
 try clear bA
 try clear bB
 try clear ao
 try clear bp
 try clear a2
 try clear a3
 try clear a4
 try clear aa
 try clear L
 try clear az
 try clear aD
 try clear aG
 try clear O
 try clear aA
 try clear aE
 try clear aH
 try clear ac
 obtain⟨kq,S,rfl,HA,a5,c,x,d,u,HB⟩:=hcut
 cases kq with
 |zero=>exact absurd HA.out (by simp[spec_l13Marks.j5])
 |succ kj35=>(
 have H:=HA.out
 clear HA
 simp only[spec_l13Marks.j5]at H
 by_cases aN:S<0
 ·(
 rw[if_pos aN]at H
 have c52b0:=zT aN
 clear aN
 simp only[Option.some.injEq,Prod.mk.injEq]at H
 obtain⟨rfl,rfl⟩:=H
 go_wp2
 go_ret2
 exact⟨_,by first|rfl|(simp[errW_none,errW_some]<;>rfl)|(simp only[←hji29];first|rfl|(simp[errW_none,errW_some]<;>rfl))|(simp[*,errW_none,errW_some]<;>rfl),by first|exact Kd.R_nil _ _ _ _ _|exact Kd.N_nil _ _ _ _ _|exact Kd.V_nil _ _ _ _ _|exact Kd.Q_nil _ _ _ _ _|exact Kd.S_nil _ _ _ _ _,sb⟩)
 rw[if_neg aN]at H
 have c52b0:=zF aN
 clear aN
 obtain⟨r,c0,H⟩:=sO H
 have H':=zM H
 clear H
 have dT:=cz.out
 have dU:=X.out
 obtain⟨c1,c2,c3,c4,c7,c8⟩:=cells3 u.out
 go_wp2_with (first|((with_reducible refine gate_callee (f:=32) rfl ?_);refine goesL_ (some 95) rfl rfl Try.func32 (by kernel_rfl) rfl #[.agg #[.int .i64 ((rd_T55 l0_0 (rd a (ji29))).f0),.int .i64 ((rd_T55 l0_0 (rd a (ji29))).f1),.string ((rd_T55 l0_0 (rd a (ji29))).f2)],.int .i64 (rd a (ji29))] rfl (by(try simp only[List.map_toArray,List.map_cons,List.map_nil]);first|done|(simp only[hji29];rfl)|rfl|(simp only[List.length_drop,List.length_take];rfl)) ?_;(with_reducible refine(spec_l13Next.calls kj35 ((rd_T55 l0_0 (rd a (ji29))).f0) ((rd_T55 l0_0 (rd a (ji29))).f1) ((rd_T55 l0_0 (rd a (ji29))).f2) (rd a (ji29)) r _ c0.out).mono ?_);rintro e dV ⟨b6,rfl,bI,hb⟩;refine⟨_,rfl,?_⟩;have da:=zM (Kd.R_lower (Kd.R_new' (Kd.R_new' bI (Kd.R_lt (sE c.out))) (Kd.R_lt (sE x.out))) (below_size zzR));replace c:=zM (Kd.R_elder' (sE c.out) (Kd.R_base bI) hb);replace x:=zM (Kd.R_elder' (sE x.out) (Kd.R_base bI) hb);replace d:=sK d hb;replace u:=sK u hb;replace HB:=sB HB hb;(try clear hb);(try clear bI)))
 go_loopg [6,12] kj35 (fun kq v6 db w'=>∃(z:List Int) (aj:List Int) (n:Int),db= .int .i64 n∧Aside0 (spec_l13Marks.l3 kq z aj S r n l0_0 l0_1=some (r1,r2))∧Aside0 (kq≤kj35)∧Aside0 (Kd.R (Kd.int .i64) 2 w' w.heap.size (fun l=>some l≠(v6:Value).ownBlock∧some l≠(b6:Value).ownBlock) (.slice (some ⟨s,0,none⟩) q.length A) z)∧Aside0 (Kd.R (Kd.int .i64) 2 w' w.heap.size (fun l=>some l≠((.slice (some ⟨s,0,none⟩) q.length A):Value).ownBlock∧some l≠(b6:Value).ownBlock) v6 aj)∧Aside0 (Kd.R (Kd.int .i64) 2 w' w.heap.size (fun l=>some l≠((.slice (some ⟨s,0,none⟩) q.length A):Value).ownBlock∧some l≠(v6:Value).ownBlock) b6 r)∧Aside0 (w'.heap[Y]?=some (.cells #[(.slice (some a1) l0_0.length c0_0),(.slice A0_1 l0_1.length c0_1)] 32 (0,0)))∧Aside0 (w'.heap[gb219]?=some (.cells #[.int .i64 ((rd_T55 l0_0 (rd a (ji29))).f0),.int .i64 ((rd_T55 l0_0 (rd a (ji29))).f1),.string ((rd_T55 l0_0 (rd a (ji29))).f2)] 55 (0,0)))∧Aside0 (Below w.heap.size w w'))
 case atStart=>exact⟨(q),(D),(0),sr,H',⟨Nat.le_refl _⟩,⟨by(try simp only[i]);(try simp only[j]);exact sE c.out⟩,⟨by(try simp only[i]);(try simp only[j]);exact sE x.out⟩,⟨by(try simp only[i]);(try simp only[j]);(with_reducible repeat(first|apply Kd.R_alloc|apply Kd.R_drewN|apply Kd.R_drew));exact Kd.R_mono da.out (fun _ hk=>⟨hk.1.2,hk.2⟩)⟩,⟨by(try simp only[i]);(try simp only[j]);exact sT d.out⟩,⟨by(try simp only[i]);(try simp only[j]);exact sT u.out⟩,⟨sb⟩⟩
 case round=>(
 clear H'
 try clear c5
 try clear c5b0
 try clear c9
 try clear c9b0
 try clear c9b1
 try clear L
 try clear O
 try clear aZ
 try clear ab
 try clear c16b0
 try clear ai
 try clear c28b0
 try clear c28b1
 try clear aq
 try clear c30b0
 try clear ar
 try clear c31b0
 try clear am
 try clear c32b0
 try clear c32b1
 try clear au
 try clear c33b0
 try clear av
 try clear c34b0
 try clear aw
 try clear c35b0
 try clear ac
 try clear aN
 try clear c52b0
 try clear aU
 try clear aV
 try clear a9
 try clear ba
 try clear br
 try clear bs
 try clear bv
 try clear bw
 try clear bx
 try clear c1
 try clear c2
 try clear c3
 try clear aW
 try clear aX
 try clear bb
 try clear bc
 try clear bt
 try clear bu
 try clear bz
 try clear bA
 try clear bB
 try clear c4
 try clear c7
 try clear c8
 try clear ao
 try clear bp
 try clear a2
 try clear a3
 try clear a4
 try clear aa
 try clear L
 try clear az
 try clear aD
 try clear aG
 try clear O
 try clear aA
 try clear aE
 try clear aH
 try clear ac
 obtain⟨z,aj,n,rfl,HA,a6,c,x,G,d,u,HB⟩:=hrel
 have E:=(Kd.R_reads' c.out).1
 rw[E]at c
 (try simp only[E])
 (try simp only[E]at d)
 (try simp only[E]at u)
 (try simp only[E]at x)
 (try simp only[E]at G)
 cases gk with
 |zero=>exact absurd HA.out (by simp[spec_l13Marks.l3])
 |succ k5=>(
 have H:=HA.out
 clear HA
 simp only[spec_l13Marks.l3]at H
 by_cases a7:n<(r.length:Int)
 ·(
 rw[if_pos a7]at H
 have c57b0:=zT a7
 clear a7
 by_cases bJ:0≤n
 ·(
 rw[if_pos bJ]at H
 have c58b0:=zT bJ
 clear bJ
 by_cases bK:0≤(rd r n)
 ·(
 rw[if_pos bK]at H
 have c59b0:=zT bK
 clear bK
 by_cases bL:(rd r n)<(z.length:Int)
 ·(
 rw[if_pos bL]at H
 have c60b0:=zT bL
 clear bL
 by_cases aQ:(rd z (rd r n))=(-1)
 ·(
 rw[if_pos aQ]at H
 have c61b0:((rd z (rd r n))==(-1))=true:=zE aQ
 have c61b1:((rd z (rd r n)) !=(-1))=false:=zY aQ
 clear aQ
 obtain⟨y227,hy227⟩:∃J:List Int,J=(z.set ((rd r n):Int).toNat S):=⟨_,rfl⟩
 replace H:(if aj.length<17592186044416 then(spec_l13Marks.l3 k5 y227 (aj++[rd r n]) S r (wrap64 (n+1)) l0_0 l0_1)else(none))=some (r1,r2):=by first|(rw[hy227];with_reducible exact H)|(have y:=(Option.bind_some _ _).symm.trans H;rw[hy227];with_reducible exact y)|(have y:=(Option.bind_some _ _).symm.trans H;with_reducible exact y)|with_reducible exact H|(rw[hy227];exact H)|exact H
 have dc:=zM hy227
 clear hy227
 by_cases bM:aj.length<17592186044416
 ·(
 rw[if_pos bM]at H
 have dd:=zM bM
 clear bM
 obtain⟨y229,hy229⟩:∃J:List Int,J=(aj++[rd r n]):=⟨_,rfl⟩
 replace H:(spec_l13Marks.l3 k5 y227 y229 S r (wrap64 (n+1)) l0_0 l0_1)=some (r1,r2):=by first|(rw[hy229];with_reducible exact H)|(have y:=(Option.bind_some _ _).symm.trans H;rw[hy229];with_reducible exact y)|(have y:=(Option.bind_some _ _).symm.trans H;with_reducible exact y)|with_reducible exact H|(rw[hy229];exact H)|exact H
 have de:=zM hy229
 clear hy229
 have H':=zM H
 clear H
 obtain⟨dW,bN,df⟩:=Kd.R_slice G.out
 subst df
 have ad:0≤(n:Int):=zzA
 have ae:n<(r.length:Int):=zzA
 obtain⟨ax,bf,cB⟩:=Kd.at_int (Kd.R_reads' G.out).2.2 n ad ae
 cases bf
 replace ad:=eq_true ad
 replace ae:=eq_true ae
 have af:0≤((rd r n):Int):=zzA
 have ag:(rd r n)<(z.length:Int):=zzA
 obtain⟨ad225,bg,ah⟩:=Kd.at_int (Kd.R_reads' c.out).2.2 (rd r n) af ag
 obtain rfl:(⟨s,0,none⟩:Addr)=ad225:=(by injection bg)
 (first|simp only[add_plain]at ah|simp only[add_at]at ah|simp only[Addr.add,Nat.zero_add]at ah|skip)
 replace af:=eq_true af
 replace ag:=eq_true ag
 have b7:0≤(n:Int):=zzA
 have b8:n<(r.length:Int):=zzA
 obtain⟨ad226,dg,dX⟩:=Kd.at_int (Kd.R_reads' G.out).2.2 n b7 b8
 obtain rfl:ax=ad226:=(by injection dg)
 replace b7:=eq_true b7
 replace b8:=eq_true b8
 have b9:0≤((rd r n):Int):=zzA
 have ca:((rd r n):Int)<((z.length:Int):Int):=zzA
 obtain⟨dY,dZ⟩:=Kd.R_celln 0 c.out ((rd r n):Int) b9 ca
 replace b9:=eq_true b9
 replace ca:=eq_true ca
 have cb:=Kd.R_putg c.out ((rd r n):Int) S
 go_wp2_with (first|((with_reducible refine gate_store (t:=2) (p:=117) rfl ?_);refine store_event (t:=2) (p:=117) (v:=?vo_w66) (w1:=(wr.setCell ⟨s,((rd r n):Int).toNat,none⟩ (.int .i64 S))) ?hg ?ho ?hn ?hr ?_;(case ho=>rfl);(case hg=>rfl);(case hn=>rfl);(case hr=>first|(go_simp;done)|(go_simp;rfl));intro cc hw;have hg:wr.grownBy cc (some s):=(by rw[hw];exact cb.2);have ap:Kd.R (Kd.int .i64) 2 cc w.heap.size (fun l=>some l≠(u6:Value).ownBlock∧some l≠(.slice (some ax) r.length bN:Value).ownBlock) (.slice (some ⟨s,0,none⟩) z.length A) y227:=(by rw[hw,dc.out];exact cb.1);clear cb;have T:=zM (ap);have U:=zM (Kd.R_after (v:=(.slice (some ⟨s,0,none⟩) z.length A)) (v1:=(.slice (some ⟨s,0,none⟩) z.length A)) (ok:=(fun l=>some l≠(.slice (some ax) r.length bN:Value).ownBlock)) (by(with_reducible repeat(first|apply Kd.R_alloc|apply Kd.R_drewN|apply Kd.R_drew));exact Kd.R_mono x.out (fun _ hk=>⟨hk.2,hk.1⟩)) hg (.inl rfl));have V:=zM (Kd.R_after (v:=(.slice (some ⟨s,0,none⟩) z.length A)) (v1:=(.slice (some ⟨s,0,none⟩) z.length A)) (ok:=(fun l=>some l≠(u6:Value).ownBlock)) (by(with_reducible repeat(first|apply Kd.R_alloc|apply Kd.R_drewN|apply Kd.R_drew));exact Kd.R_mono G.out (fun _ hk=>⟨hk.2,hk.1⟩)) hg (.inl rfl));have W:=zM (blk_grown (g:=Y) (o:= .cells #[.slice (some a1) l0_0.length c0_0,.slice A0_1 l0_1.length c0_1] 32 (0,0)) (sT d.out) hg (Kd.R_ne c.out d.out (by decide)));have bh:=zM (blk_grown (g:=gb219) (o:= .cells #[.int .i64 ((rd_T55 l0_0 (rd a (ji29))).f0),.int .i64 ((rd_T55 l0_0 (rd a (ji29))).f1),.string ((rd_T55 l0_0 (rd a (ji29))).f2)] 55 (0,0)) (sT u.out) hg (Kd.R_ne c.out u.out (by decide)));have bi:=zM ((by rw[hw];exact below_set (HB.out) bQ.out:Below w.heap.size w cc));clear c;clear x;clear G;clear d;clear u;clear HB;have c:=T;have x:=U;have G:=V;have d:=W;have u:=bh;have HB:=bi;clear T U V W bh bi;clear hg hw ap;have cd:0≤(n:Int):=zzA;have ce:n<(r.length:Int):=zzA;obtain⟨ad228,dh,d0⟩:=Kd.at_int (Kd.R_reads' G.out).2.2 n cd ce;obtain rfl:ax=ad228:=(by injection dh);replace cd:=eq_true cd;replace ce:=eq_true ce)|((with_reducible refine gate_builtin (b:= .append) (xs:= #[.tmp 118,.tmp 123]) rfl ?_);at_builtin;refine Kd.R_append (Kd.int .i64) (w0:=w) w.heap.size rfl (.tmp 118) (.tmp 123) 52 2 (.int .i64 0) 8 rfl Try.underlying52 info2 rfl (by decide) (by omega) u6 aj (rd r n) [.int .i64 (rd r n)] (fun l=>some l≠(.slice (some ⟨s,0,none⟩) z.length A:Value).ownBlock∧some l≠(.slice (some ax) r.length bN:Value).ownBlock) (fun _=>False) rfl rfl ?aP (fun _ hk=>hk.elim) ?aF ?aO ?aB ?aS ?aL ?_;(case aP=>exact rfl);(case aB=>exact zzR);(case aF=>exact(fun l hk=>⟨Kd.fresh' (Kd.R_lt (sE c.out)) l hk,Kd.fresh' (Kd.R_lt (sE G.out)) l hk⟩));(case aO=>exact(by(with_reducible repeat(first|apply Kd.R_alloc|apply Kd.R_drewN|apply Kd.R_drew));exact Kd.R_mono x.out (fun _ hk=>⟨hk.2,hk.1⟩)));(case aS=>exact(below_size zzR));(case aL=>have:=dd.out;omega);intro d1 d2 ho hb hg hat;rw[←de.out]at ho;have T:=zM (Kd.R_after (ok:=(fun l=>some l≠(.slice (some ax) r.length bN:Value).ownBlock)) (by(with_reducible repeat(first|apply Kd.R_alloc|apply Kd.R_drewN|apply Kd.R_drew));exact Kd.R_mono c.out (fun _ hk=>⟨hk.2,hk.1⟩)) hg hat);have U:=zM (Kd.R_after (ok:=(fun l=>some l≠(.slice (some ⟨s,0,none⟩) z.length A:Value).ownBlock)) (by(with_reducible repeat(first|apply Kd.R_alloc|apply Kd.R_drewN|apply Kd.R_drew));exact Kd.R_mono G.out (fun _ hk=>⟨hk.2,hk.1⟩)) hg hat);have V:=zM (blk_grown (g:=Y) (o:= .cells #[.slice (some a1) l0_0.length c0_0,.slice A0_1 l0_1.length c0_1] 32 (0,0)) (sT d.out) hg (Kd.R_ne x.out d.out (by decide)));have W:=zM (blk_grown (g:=gb219) (o:= .cells #[.int .i64 ((rd_T55 l0_0 (rd a (ji29))).f0),.int .i64 ((rd_T55 l0_0 (rd a (ji29))).f1),.string ((rd_T55 l0_0 (rd a (ji29))).f2)] 55 (0,0)) (sT u.out) hg (Kd.R_ne x.out u.out (by decide)));have bh:=zM (hb);have bi:=zM (ho);clear c;clear G;clear d;clear u;clear HB;clear x;have c:=T;have G:=U;have d:=V;have u:=W;have HB:=bh;have di:=bi;clear T U V W bh bi;clear ho hb hg hat))
 (try simp only[←E])
 go_roundg k5
 case measure=>have:=F.out;have:=K.out;have:=Q.out;have:=a5.out;have:=a6.out;omega
 case rel=>exact⟨(y227),(y229),(wrap64 (n+1)),sr,H',⟨by have:=F.out;have:=K.out;have:=Q.out;have:=a5.out;have:=a6.out;omega⟩,⟨by(try simp only[i]);(try simp only[j]);(try simp only[E]);(with_reducible repeat(first|apply Kd.R_alloc|apply Kd.R_drewN|apply Kd.R_drew));exact Kd.R_mono c.out (fun _ hk=>⟨hk.2,hk.1⟩)⟩,⟨by(try simp only[i]);(try simp only[j]);(try simp only[E]);exact sE di.out⟩,⟨by(try simp only[i]);(try simp only[j]);(try simp only[E]);exact sE G.out⟩,⟨by(try simp only[i]);(try simp only[j]);(try simp only[E]);exact sT d.out⟩,⟨by(try simp only[i]);(try simp only[j]);(try simp only[E]);exact sT u.out⟩,⟨sb⟩⟩)
 rw[if_neg bM]at H
 exact absurd H (by simp))
 rw[if_neg aQ]at H
 have c61b0:((rd z (rd r n))==(-1))=false:=zN aQ
 have c61b1:((rd z (rd r n)) !=(-1))=true:=zX aQ
 by_cases aR:(rd z (rd r n))=S
 ·(
 rw[if_pos aR]at H
 have c68b0:((rd z (rd r n))==S)=true:=zE aR
 have c68b1:((rd z (rd r n)) !=S)=false:=zY aR
 clear aR
 have H':=zM H
 clear H
 obtain⟨d3,d4,dj⟩:=Kd.R_slice G.out
 subst dj
 have ad:0≤(n:Int):=zzA
 have ae:n<(r.length:Int):=zzA
 obtain⟨ax,bf,cB⟩:=Kd.at_int (Kd.R_reads' G.out).2.2 n ad ae
 cases bf
 replace ad:=eq_true ad
 replace ae:=eq_true ae
 have af:0≤((rd r n):Int):=zzA
 have ag:(rd r n)<(z.length:Int):=zzA
 obtain⟨ad225,bg,ah⟩:=Kd.at_int (Kd.R_reads' c.out).2.2 (rd r n) af ag
 obtain rfl:(⟨s,0,none⟩:Addr)=ad225:=(by injection bg)
 (first|simp only[add_plain]at ah|simp only[add_at]at ah|simp only[Addr.add,Nat.zero_add]at ah|skip)
 replace af:=eq_true af
 replace ag:=eq_true ag
 go_wp2
 (try simp only[←E])
 go_roundg k5
 case measure=>have:=F.out;have:=K.out;have:=Q.out;have:=a5.out;have:=a6.out;omega
 case rel=>exact⟨(z),(aj),(wrap64 (n+1)),sr,H',⟨by have:=F.out;have:=K.out;have:=Q.out;have:=a5.out;have:=a6.out;omega⟩,⟨by(try simp only[i]);(try simp only[j]);(try simp only[E]);exact sE c.out⟩,⟨by(try simp only[i]);(try simp only[j]);(try simp only[E]);exact sE x.out⟩,⟨by(try simp only[i]);(try simp only[j]);(try simp only[E]);exact sE G.out⟩,⟨by(try simp only[i]);(try simp only[j]);(try simp only[E]);exact sT d.out⟩,⟨by(try simp only[i]);(try simp only[j]);(try simp only[E]);exact sT u.out⟩,⟨sb⟩⟩)
 rw[if_neg aR]at H
 have c68b0:((rd z (rd r n))==S)=false:=zN aR
 have c68b1:((rd z (rd r n)) !=S)=true:=zX aR
 simp only[Option.some.injEq,Prod.mk.injEq]at H
 obtain⟨rfl,rfl⟩:=H
 obtain⟨d5,d6,dk⟩:=Kd.R_slice G.out
 subst dk
 have ad:0≤(n:Int):=zzA
 have ae:n<(r.length:Int):=zzA
 obtain⟨ax,bf,cB⟩:=Kd.at_int (Kd.R_reads' G.out).2.2 n ad ae
 cases bf
 replace ad:=eq_true ad
 replace ae:=eq_true ae
 have af:0≤((rd r n):Int):=zzA
 have ag:(rd r n)<(z.length:Int):=zzA
 obtain⟨ad225,bg,ah⟩:=Kd.at_int (Kd.R_reads' c.out).2.2 (rd r n) af ag
 obtain rfl:(⟨s,0,none⟩:Addr)=ad225:=(by injection bg)
 (first|simp only[add_plain]at ah|simp only[add_at]at ah|simp only[Addr.add,Nat.zero_add]at ah|skip)
 replace af:=eq_true af
 replace ag:=eq_true ag
 go_wp2
 go_ret2
 exact⟨_,by first|rfl|(simp[errW_none,errW_some]<;>rfl)|(simp only[←hji29];first|rfl|(simp[errW_none,errW_some]<;>rfl))|(simp[*,errW_none,errW_some]<;>rfl),by first|exact Kd.R_nil _ _ _ _ _|exact Kd.N_nil _ _ _ _ _|exact Kd.V_nil _ _ _ _ _|exact Kd.Q_nil _ _ _ _ _|exact Kd.S_nil _ _ _ _ _,sb⟩)
 rw[if_neg bL]at H
 exact absurd H (by simp))
 rw[if_neg bK]at H
 exact absurd H (by simp))
 rw[if_neg bJ]at H
 exact absurd H (by simp))
 rw[if_neg a7]at H
 have c57b0:=zF a7
 clear a7
 have H':=zM H
 clear H
 obtain⟨d7,d8,dl⟩:=Kd.R_slice G.out
 subst dl
 go_wp2
 (try simp only[←j, ←E])
 go_roundg k5
 case measure=>have:=F.out;have:=K.out;have:=Q.out;have:=a5.out;have:=a6.out;omega
 case rel=>exact⟨(z),(aj),H',⟨by have:=F.out;have:=K.out;have:=Q.out;have:=a5.out;have:=a6.out;omega⟩,⟨by(try simp only[i]);(try simp only[j]);(try simp only[E]);(with_reducible repeat(first|apply Kd.R_alloc|apply Kd.R_drewN|apply Kd.R_drew));exact Kd.R_mono c.out (fun _ hk=>hk.1)⟩,⟨by(try simp only[i]);(try simp only[j]);(try simp only[E]);(with_reducible repeat(first|apply Kd.R_alloc|apply Kd.R_drewN|apply Kd.R_drew));exact Kd.R_mono x.out (fun _ hk=>hk.1)⟩,⟨by(try simp only[i]);(try simp only[j]);(try simp only[E]);exact sT d.out⟩,⟨sb⟩⟩)))))
 rw[if_neg aw]at H
 exact absurd H (by simp))
 rw[if_neg av]at H
 exact absurd H (by simp))
 rw[if_neg au]at H
 exact absurd H (by simp))
 rw[if_neg am]at H
 exact absurd H (by simp))
 rw[if_neg ar]at H
 exact absurd H (by simp))
 rw[if_neg aq]at H
 exact absurd H (by simp))
 rw[if_neg ai]at H
 have c28b0:decide (0<(a.length:Int))=false:=zF ai
 have c28b1:decide (0<a.length)=false:=zF (by omega)
 clear ai
 simp only[Option.some.injEq,Prod.mk.injEq]at H
 obtain⟨rfl,rfl⟩:=H
 obtain⟨d9,ea,dm⟩:=Kd.R_slice x.out
 subst dm
 go_wp2
 go_ret2
 exact⟨_,sq,by(with_reducible repeat(first|apply Kd.R_alloc|apply Kd.R_drewN|apply Kd.R_drew));exact Kd.R_mono c.out (fun _ hk=>trivial),sb⟩)))))
 rw[if_neg c9]at H
 exact absurd H (by simp)))
end Go.Proofs.Ytcppdkdnpmgpmaa.PFnExactEntryOf
