/- Printed functions: laws_toObjectS, laws_toHeap. -/
import Derived.Test.YtengilknjiobiaaYPoP0
import Derived.Test.YtengilknjiobiaaYPoP2
namespace Go.Proofs.Ytengilknjiobiaa.PFnExactPairsOf
open Go.RowKit Go.Proofs.YtengilknjiobiaaG Go.Proofs.YtengilknjiobiaaW.PrintWords Go.Proofs.YtengilknjiobiaaW.PrintLast Go.Proofs.YtengilknjiobiaaW.PrintMore
attribute [local go_sem] max2_int min2_int max_two min_two max_three min_three max_four min_four
set_option linter.unusedVariables false
set_option linter.unusedSimpArgs false
def laws_toObjectS.l0 : Nat → List (S51) → List (S56) → Int → Option ((List (S56)))
 |0,_,_,_=>none
 |k+1,x0,x3,x4=>if x4<(x0.length:Int)then(if 0≤x4 then((laws_toObject.f k ((rd_T51 x0 x4).f0) ((rd_T51 x0 x4).f1) ((rd_T51 x0 x4).f2) ((rd_T51 x0 x4).f3) ((rd_T51 x0 x4).f4) ((rd_T51 x0 x4).f5) ((rd_T51 x0 x4).f6.f0) ((rd_T51 x0 x4).f6.f1) ((rd_T51 x0 x4).f6.f2) ((rd_T51 x0 x4).f6.f3)).bind fun bt141=>(if x4<(x3.length:Int)then(laws_toObjectS.l0 k x0 (x3.set (x4:Int).toNat (⟨bt141.1,bt141.2.1,bt141.2.2.1,bt141.2.2.2.1,bt141.2.2.2.2.1,bt141.2.2.2.2.2.1,(⟨bt141.2.2.2.2.2.2.1,bt141.2.2.2.2.2.2.2.1,bt141.2.2.2.2.2.2.2.2.1,bt141.2.2.2.2.2.2.2.2.2⟩:S29)⟩:S56)) (wrap64 (x4+1)))else(none)))else(none))else(some x3)
def laws_toObjectS.f (k:Nat) (l0:List (S51)):Option ((List (S56))):=if 0≤(l0.length:Int)then(if((l0.length:Int):Int).toNat≤2199023255552 then(laws_toObjectS.l0 k l0 (List.replicate ((l0.length:Int):Int).toNat z56) 0)else(none))else(none)
set_option maxHeartbeats 8000000 in
set_option maxRecDepth 100000 in
theorem laws_toObjectS.calls (k:Nat) (A0:Option Addr) (c0:Nat) (l0:List (S51)) (r:List (S56)) (w:World) (hr0:Kd.C k51 w A0 l0.length l0) (hc0:l0.length≤c0) (h:laws_toObjectS.f k l0=some r):
  Calls Try.prog 44 #[.slice A0 l0.length c0] w fun e w'=>∃ai:Value,e= .returned (ai)∧Kd.S k56 56 w' w.heap.size (fun _=>True) ai r∧Below w.heap.size w w':=by
 have bx:=Try.underlying51
 have bz:=Try.underlying56
 have aM:=zM hr0
 have bA:=zM hc0
 clear hr0 hc0
 have HB:=zM (Below.refl w.heap.size w)
 have H:(if 0≤(l0.length:Int)then(if((l0.length:Int):Int).toNat≤2199023255552 then(laws_toObjectS.l0 k l0 (List.replicate ((l0.length:Int):Int).toNat z56) 0)else(none))else(none))=some r:=h
 clear h
 by_cases K:0≤(l0.length:Int)
 ·(
 rw[if_pos K]at H
 have c2b0:=eq_true K
 have c2b1:=zT K
 clear K
 by_cases L:((l0.length:Int):Int).toNat≤2199023255552
 ·(
 rw[if_pos L]at H
 have c3b0:=eq_true L
 have c3b1:=zT L
 clear L
 obtain⟨y137,hy137⟩:∃Z:List (S56),Z=(List.replicate ((l0.length:Int):Int).toNat z56):=⟨_,rfl⟩
 replace H:(laws_toObjectS.l0 k l0 y137 0)=some r:=by first|(rw[hy137];with_reducible exact H)|(have z:=(Option.bind_some _ _).symm.trans H;rw[hy137];with_reducible exact z)|(have z:=(Option.bind_some _ _).symm.trans H;with_reducible exact z)|with_reducible exact H|(rw[hy137];exact H)|exact H
 have aj:=zM hy137
 clear hy137
 have H':=zM H
 clear H
 go_enter Try.func44,Try.ntmps44
 go_wp2_with (first|((with_reducible refine gate_dst (N:=7) rfl ?_);refine Kd.S_make k56 _ 56 rfl (N:=7) rfl 32 _ _ rfl (l0.length:Int) rfl rfl Try.underlying32 (.agg #[(.int .i64 0),(.int .i64 0),(.string ⟨#[]⟩),(.int .i64 0),(.slice none 0 0),(.slice none 0 0),(.int .i64 0),(.int .i64 0),(.string ⟨#[]⟩),(.int .i64 0)]) 128 info56 rfl (by decide) (by omega) z56 (ok:=fun _=>True) (okp:=fun _=>True) (k56_mkM _ _ _ z56 (Kd.R_nil _ _ _ _ _) (Kd.R_nil _ _ _ _ _)) (fun _ hk=>hk) trivial (zzA) (Nat.le_trans (Nat.mul_le_mul_right _ (zzA:(l0.length:Int).toNat≤2199023255552)) (by omega)) (Below.refl _ _) (Nat.le_refl _) ?_;intro aN w4 O hb aO aP;clear aO aP;(first|rw[←aj.out]at O|(simp only[Int.reduceToNat]at O;rw[←aj.out]at O));have aQ:=zM (Kd.S_lower O (below_size (sH HB.out)));replace HB:=sB HB hb;clear hb O))
 go_loopg [4] k (fun kq v4 w'=>∃(i:List (S56)) (a:Int),v4= .int .i64 a∧Aside0 (laws_toObjectS.l0 kq l0 i a=some r)∧Aside0 (kq≤k)∧Aside0 (Kd.S k56 56 w' w.heap.size (fun _=>True) aN i)∧Aside0 (Below w.heap.size w w'))
 case atStart=>exact⟨(y137),(0),sr,H',⟨Nat.le_refl _⟩,⟨by exact sI aQ.out⟩,⟨sb⟩⟩
 case round=>(
 clear H'
 try clear K
 try clear c2b0
 try clear c2b1
 try clear L
 try clear c3b0
 try clear c3b1
 obtain⟨i,a,rfl,HA,ak,m,HB⟩:=hrel
 cases gk with
 |zero=>exact absurd HA.out (by simp[laws_toObjectS.l0])
 |succ k1=>(
 have H:=HA.out
 clear HA
 simp only[laws_toObjectS.l0]at H
 by_cases M:a<(l0.length:Int)
 ·(
 rw[if_pos M]at H
 have c6b0:=zT M
 clear M
 by_cases R:0≤a
 ·(
 rw[if_pos R]at H
 have c7b0:=zT R
 clear R
 replace H:=Option.bind_eq_some_iff.mp H
 obtain⟨⟨A,B,D,E,P,Q,F,G,I,J⟩,al,H⟩:=H
 replace H:(if a<(i.length:Int)then(laws_toObjectS.l0 k1 l0 (i.set (a:Int).toNat (⟨A,B,D,E,P,Q,(⟨F,G,I,J⟩:S29)⟩:S56)) (wrap64 (a+1)))else(none))=some r:=H
 have A8:=zM al
 clear al
 by_cases T:a<(i.length:Int)
 ·(
 rw[if_pos T]at H
 have c9b0:=zT T
 clear T
 obtain⟨y155,hy155⟩:∃Z:List (S56),Z=(i.set (a:Int).toNat (⟨A,B,D,E,P,Q,(⟨F,G,I,J⟩:S29)⟩:S56)):=⟨_,rfl⟩
 replace H:(laws_toObjectS.l0 k1 l0 y155 (wrap64 (a+1)))=some r:=by first|(rw[hy155];with_reducible exact H)|(have z:=(Option.bind_some _ _).symm.trans H;rw[hy155];with_reducible exact z)|(have z:=(Option.bind_some _ _).symm.trans H;with_reducible exact z)|with_reducible exact H|(rw[hy155];exact H)|exact H
 have aR:=zM hy155
 clear hy155
 have H':=zM H
 clear H
 have aa:0≤(a:Int):=zzA
 have ab:a<(l0.length:Int):=zzA
 obtain⟨bB,aS,aT,aU,aV,aW,am,an,ao,ap,aq,ar,au,av,aw,ax,ay,az,aA,aB⟩:=at_T51 aM.out a aa ab
 cases aW
 replace am:=sX HB am
 replace an:=sX HB an
 replace ao:=sX HB ao
 replace ap:=sX HB ap
 replace aq:=sX HB aq
 replace ar:=sX HB ar
 replace au:=sX HB au
 replace av:=sX HB av
 replace aw:=sX HB aw
 replace ax:=sX HB ax
 have aX:=zM az
 have aY:=zM ay
 clear az ay
 have aZ:=zM aB
 have a0:=zM aA
 clear aB aA
 replace aa:=eq_true aa
 replace ab:=eq_true ab
 go_wp2_with (first|((with_reducible refine gate_callee (f:=27) rfl ?_);refine sC (some 20) Try.func27 #[.agg #[.int .i64 ((rd_T51 l0 a).f0),.int .i64 ((rd_T51 l0 a).f1),.string ((rd_T51 l0 a).f2),.int .i64 ((rd_T51 l0 a).f3),.slice aS ((rd_T51 l0 a).f4).length aT,.slice aU ((rd_T51 l0 a).f5).length aV,.int .i64 ((rd_T51 l0 a).f6.f0),.int .i64 ((rd_T51 l0 a).f6.f1),.string ((rd_T51 l0 a).f6.f2),.int .i64 ((rd_T51 l0 a).f6.f3)]] (laws_toObject.calls k1 ((rd_T51 l0 a).f0) ((rd_T51 l0 a).f1) ((rd_T51 l0 a).f2) ((rd_T51 l0 a).f3) _ _ ((rd_T51 l0 a).f4) _ _ ((rd_T51 l0 a).f5) ((rd_T51 l0 a).f6.f0) ((rd_T51 l0 a).f6.f1) ((rd_T51 l0 a).f6.f2) ((rd_T51 l0 a).f6.f3) A B D E P Q F G I J _ ?side1 ?side2 ?side3 ?side4 A8.out) ?_;(case side1=>exact sD (zC aX.out HB.out));(case side2=>exact aY.out);(case side3=>exact sD (zC aZ.out HB.out));(case side4=>exact a0.out);rintro e d ⟨U,V,rfl,ac,ad,hb⟩;refine⟨_,rfl,?_⟩;replace m:=zM (Kd.S_mono (Kd.S_told (Kd.S_told (Kd.S_old (sI m.out) hb) (Kd.R_base ac)) (Kd.R_base ad)) (fun _ l=>l.1));have W:=zM (Kd.R_lower ac (below_size (sH HB.out)));have X:=zM (Kd.R_lower ad (below_size (sH HB.out)));replace HB:=sB HB hb;(try clear hb);(try clear ac);(try clear ad);have ae:0≤(a:Int):=zzA;have af:(a:Int)<((i.length:Int):Int):=zzA;obtain⟨b,aC,aD,aE,a1,bC,aF⟩:=Kd.S_form m.out (by omega);(first|cases aD|(injection aD with Y a2 a3;(first|subst Y|(injection Y with Y;subst Y));subst a3;clear a2));have y:=zM aE;have bD:=zM aF;clear aE a1 aF;obtain⟨_,bE,a4,aG,n,q,_,_⟩:=Kd.S_elem m.out z56 (a:Int) ae af;obtain⟨a5,a6,rfl,bF,bG⟩:=k56_openM aG;have bH:d.cell? ⟨b,(a:Int).toNat*10,none⟩=some (.int .i64 ((rd_T56 i a).f0)):=n 0 _ rfl;have bI:d.cell? ⟨b,(a:Int).toNat*10+1,none⟩=some (.int .i64 ((rd_T56 i a).f1)):=n 1 _ rfl;have bJ:d.cell? ⟨b,(a:Int).toNat*10+2,none⟩=some (.string ((rd_T56 i a).f2)):=n 2 _ rfl;have bK:d.cell? ⟨b,(a:Int).toNat*10+3,none⟩=some (.int .i64 ((rd_T56 i a).f3)):=n 3 _ rfl;have bL:d.cell? ⟨b,(a:Int).toNat*10+4,none⟩=some (a5):=n 4 _ rfl;have bM:d.cell? ⟨b,(a:Int).toNat*10+5,none⟩=some (a6):=n 5 _ rfl;have bN:d.cell? ⟨b,(a:Int).toNat*10+6,none⟩=some (.int .i64 ((rd_T56 i a).f6.f0)):=n 6 _ rfl;have bO:d.cell? ⟨b,(a:Int).toNat*10+7,none⟩=some (.int .i64 ((rd_T56 i a).f6.f1)):=n 7 _ rfl;have bP:d.cell? ⟨b,(a:Int).toNat*10+8,none⟩=some (.string ((rd_T56 i a).f6.f2)):=n 8 _ rfl;have bQ:d.cell? ⟨b,(a:Int).toNat*10+9,none⟩=some (.int .i64 ((rd_T56 i a).f6.f3)):=n 9 _ rfl;have bR:d.frozen? ⟨b,(a:Int).toNat*10,none⟩=false:=q 0;have bS:d.frozen? ⟨b,(a:Int).toNat*10+1,none⟩=false:=q 1;have bT:d.frozen? ⟨b,(a:Int).toNat*10+2,none⟩=false:=q 2;have bU:d.frozen? ⟨b,(a:Int).toNat*10+3,none⟩=false:=q 3;have bV:d.frozen? ⟨b,(a:Int).toNat*10+4,none⟩=false:=q 4;have bW:d.frozen? ⟨b,(a:Int).toNat*10+5,none⟩=false:=q 5;have bX:d.frozen? ⟨b,(a:Int).toNat*10+6,none⟩=false:=q 6;have bY:d.frozen? ⟨b,(a:Int).toNat*10+7,none⟩=false:=q 7;have bZ:d.frozen? ⟨b,(a:Int).toNat*10+8,none⟩=false:=q 8;have b0:d.frozen? ⟨b,(a:Int).toNat*10+9,none⟩=false:=q 9;clear a4 n q aG;replace ae:=eq_true ae;replace af:=eq_true af;have n_:=zM (Kd.S_mono (ok':=(fun c=>some c≠(U:Value).ownBlock∧some c≠(V:Value).ownBlock)) m.out (fun c hk=>⟨hk.1.2,hk.2⟩));clear m;have m:=n_;clear n_;have a7:=zM (show Kd.S k56 56 d w.heap.size (fun c=>((fun _=>True)) c∧¬((fun c=>some c=(U:Value).ownBlock∨some c=(V:Value).ownBlock)) c) (.slice (some ⟨b,0,none⟩) i.length aC) i from(by(with_reducible repeat(first|apply Kd.S_alloc|apply Kd.S_drewN|apply Kd.S_drew));exact Kd.S_mono m.out (fun c hk=>⟨trivial,fun s=>s.elim (fun l=>hk.1 l) (fun l=>hk.2 l)⟩)));obtain⟨b1,b2,a8,aH,u,x,a9,aI⟩:=Kd.S_elem a7.out z56 (a:Int) (zzA) (by have l:(a:Int)<((i.length:Int):Int):=zzA;first|exact l|(have s:=(Kd.S_reads' m.out).1;omega)|simpa using l);obtain⟨b3,b4,rfl,b5,b6⟩:=k56_openM aH;have ag:=Kd.S_seg aI (zzA) (by have l:(a:Int)<((i.length:Int):Int):=zzA;first|exact l|(have s:=(Kd.S_reads' m.out).1;omega)|simpa using l) (seg:=[.int .i64 A,.int .i64 B,.string D,.int .i64 E,U,V,.int .i64 F,.int .i64 G,.string I,.int .i64 J]) (j:=0) (show 10≤10 from by decide) (x':=(⟨A,B,D,E,P,Q,(⟨F,G,I,J⟩:S29)⟩:S56)) (k56_mkM _ _ _ (⟨A,B,D,E,P,Q,(⟨F,G,I,J⟩:S29)⟩:S56) (Kd.R_mono (Kd.R_tight rfl (Kd.R_mono (ok':=fun c=>((fun _=>True)) c∧c≠b) (Kd.R_apart' (W.out) (Kd.S_typed m.out) (by decide)) (fun c hk=>⟨trivial,fun s=>(hk.2) (by rw[s];rfl)⟩))) (fun _ l=>Or.inr (Or.inl l))) (Kd.R_mono (Kd.R_tight rfl (Kd.R_mono (ok':=fun c=>((fun _=>True)) c∧c≠b) (Kd.R_apart' (X.out) (Kd.S_typed m.out) (by decide)) (fun c hk=>⟨trivial,fun s=>(hk.2) (by rw[s];rfl)⟩))) (fun _ l=>Or.inr (Or.inr (l))))) (fun _ hk=>hk) (fun c ba=>ba.elim (fun l=>((Kd.R_mono (ok':=fun c=>((fun _=>True)) c∧c≠b) (Kd.R_apart' (W.out) (Kd.S_typed m.out) (by decide)) (fun c hk=>⟨trivial,fun s=>(hk.2) (by rw[s];rfl)⟩))).1 c l.symm) (fun l=>((Kd.R_mono (ok':=fun c=>((fun _=>True)) c∧c≠b) (Kd.R_apart' (X.out) (Kd.S_typed m.out) (by decide)) (fun c hk=>⟨trivial,fun s=>(hk.2) (by rw[s];rfl)⟩))).1 c l.symm));have bb:=u 0 _ rfl;(try simp only[show(k56).sz=10 from rfl,Nat.mul_one,Nat.add_zero]at bb);have bc:=x 0;(try simp only[show(k56).sz=10 from rfl,Nat.mul_one,Nat.add_zero]at bc);have bd:=u 1 _ rfl;(try simp only[show(k56).sz=10 from rfl,Nat.mul_one,Nat.add_zero]at bd);have be:=x 1;(try simp only[show(k56).sz=10 from rfl,Nat.mul_one,Nat.add_zero]at be);have bf:=u 2 _ rfl;(try simp only[show(k56).sz=10 from rfl,Nat.mul_one,Nat.add_zero]at bf);have bg:=x 2;(try simp only[show(k56).sz=10 from rfl,Nat.mul_one,Nat.add_zero]at bg);have bh:=u 3 _ rfl;(try simp only[show(k56).sz=10 from rfl,Nat.mul_one,Nat.add_zero]at bh);have bi:=x 3;(try simp only[show(k56).sz=10 from rfl,Nat.mul_one,Nat.add_zero]at bi);have bj:=u 4 _ rfl;(try simp only[show(k56).sz=10 from rfl,Nat.mul_one,Nat.add_zero]at bj);have bk:=x 4;(try simp only[show(k56).sz=10 from rfl,Nat.mul_one,Nat.add_zero]at bk);have bl:=u 5 _ rfl;(try simp only[show(k56).sz=10 from rfl,Nat.mul_one,Nat.add_zero]at bl);have bm:=x 5;(try simp only[show(k56).sz=10 from rfl,Nat.mul_one,Nat.add_zero]at bm);have bn:=u 6 _ rfl;(try simp only[show(k56).sz=10 from rfl,Nat.mul_one,Nat.add_zero]at bn);have bo:=x 6;(try simp only[show(k56).sz=10 from rfl,Nat.mul_one,Nat.add_zero]at bo);have bp:=u 7 _ rfl;(try simp only[show(k56).sz=10 from rfl,Nat.mul_one,Nat.add_zero]at bp);have bq:=x 7;(try simp only[show(k56).sz=10 from rfl,Nat.mul_one,Nat.add_zero]at bq);have br:=u 8 _ rfl;(try simp only[show(k56).sz=10 from rfl,Nat.mul_one,Nat.add_zero]at br);have bs:=x 8;(try simp only[show(k56).sz=10 from rfl,Nat.mul_one,Nat.add_zero]at bs);have bt:=u 9 _ rfl;(try simp only[show(k56).sz=10 from rfl,Nat.mul_one,Nat.add_zero]at bt);have bu:=x 9;(try simp only[show(k56).sz=10 from rfl,Nat.mul_one,Nat.add_zero]at bu);clear a8 u x aH a9 aI)|((with_reducible refine gate_store (t:=56) (p:=21) rfl ?_);refine store_event (t:=56) (p:=21) (v:=?vo_w13) (w1:=((((((((((d.setCell ⟨b,(a:Int).toNat*10,none⟩ (.int .i64 A)).setCell ⟨b,(a:Int).toNat*10+1,none⟩ (.int .i64 B)).setCell ⟨b,(a:Int).toNat*10+2,none⟩ (.string D)).setCell ⟨b,(a:Int).toNat*10+3,none⟩ (.int .i64 E)).setCell ⟨b,(a:Int).toNat*10+4,none⟩ (U)).setCell ⟨b,(a:Int).toNat*10+5,none⟩ (V)).setCell ⟨b,(a:Int).toNat*10+6,none⟩ (.int .i64 F)).setCell ⟨b,(a:Int).toNat*10+7,none⟩ (.int .i64 G)).setCell ⟨b,(a:Int).toNat*10+8,none⟩ (.string I)).setCell ⟨b,(a:Int).toNat*10+9,none⟩ (.int .i64 J))) ?hg ?ho ?hn ?hr ?_;(case ho=>rfl);(case hg=>rfl);(case hn=>rfl);(case hr=>first|(go_simp;done)|(go_simp;rfl)|(obtain⟨_,_,bv⟩:=Kd.R_slice W.out;obtain⟨_,_,bw⟩:=Kd.R_slice X.out;simp only[bv,bw];first|(go_simp;done)|(go_simp;rfl)));intro ah hw;have hg:d.grownBy ah (some b):=(by rw[hw];exact ag.2);have aJ:Kd.S k56 56 ah w.heap.size (fun _=>True) (.slice (some ⟨b,0,none⟩) i.length aC) y155:=(by rw[hw,aR.out];exact ag.1);clear ag;have aK:=zM (aJ);have aL:=zM ((by rw[hw];exact below_set (below_set (below_set (below_set (below_set (below_set (below_set (below_set (below_set (below_set (HB.out) y.out) y.out) y.out) y.out) y.out) y.out) y.out) y.out) y.out) y.out:Below w.heap.size w ah));clear m;clear HB;clear W;clear X;have m:=aK;have HB:=aL;clear aK aL;clear hg hw aJ))
 go_roundg k1
 case measure=>have:=ak.out;omega
 case rel=>exact⟨(y155),(wrap64 (a+1)),sr,H',⟨by have:=ak.out;omega⟩,⟨by exact sI m.out⟩,⟨sb⟩⟩)
 rw[if_neg T]at H
 exact absurd H (by simp))
 rw[if_neg R]at H
 exact absurd H (by simp))
 rw[if_neg M]at H
 have c6b0:=zF M
 clear M
 obtain rfl:=zI H
 go_wp2
 go_ret
 exact⟨_,sq,by exact sI m.out,sb⟩)))
 rw[if_neg L]at H
 exact absurd H (by simp))
 rw[if_neg K]at H
 exact absurd H (by simp)
def laws_toHeap.f (k:Nat) (a0_0:Int) (l0_1:List (S51)):Option (Int×(List (S56))):=(laws_toObjectS.f k l0_1).bind fun t159=>(some (a0_0,t159))
set_option maxHeartbeats 8000000 in
set_option maxRecDepth 100000 in
theorem laws_toHeap.calls (k:Nat) (a0_0:Int) (A0_1:Option Addr) (c0_1:Nat) (l0_1:List (S51)) (r1:Int) (r2:List (S56)) (w:World) (hr0_1:Kd.C k51 w A0_1 l0_1.length l0_1) (hc0_1:l0_1.length≤c0_1) (h:laws_toHeap.f k a0_0 l0_1=some (r1,r2)):
  Calls Try.prog 12 #[.agg #[.int .i64 a0_0,.slice A0_1 l0_1.length c0_1]] w fun e w'=>∃m:Value,e= .returned (.agg #[.int .i64 r1,m])∧Kd.S k56 56 w' w.heap.size (fun _=>True) m r2∧Below w.heap.size w w':=by
 have U:=Try.underlying24
 have V:=Try.underlying34
 have J:=zM hr0_1
 have K:=zM hc0_1
 clear hr0_1 hc0_1
 have HB:=zM (Below.refl w.heap.size w)
 have H:((laws_toObjectS.f k l0_1).bind fun d=>(some (a0_0,d)))=some (r1,r2):=h
 clear h
 obtain⟨d,L,H⟩:=sO H
 simp only[Option.some.injEq,Prod.mk.injEq]at H
 obtain⟨rfl,rfl⟩:=H
 go_enter Try.func12,Try.ntmps12
 go_wp2_with (first|((with_reducible refine gate_dst (N:=1) rfl ?_);refine sV (N:=1) (cs:= #[.int .i64 a0_0,.slice A0_1 l0_1.length c0_1]) (t:=24) ?_;intro M hg W hbox hb;have a:=zM (hbox);have X:=sG HB hg;have n:=sG HB hg;replace HB:=sB HB hb;clear hb hbox hg)|((with_reducible refine gate_dst (N:=2) rfl ?_);refine sV (N:=2) (cs:= #[.int .i64 0,.slice none 0 0]) (t:=34) ?_;intro i hg Y hbox hb;have b:=zM (hbox);have Z:=sG HB hg;have q:=sG HB hg;replace HB:=sB HB hb;have O:=sN a hg;have P:=sM a hg;replace a:=sK a hb;clear hb hbox hg)|((with_reducible refine gate_dst (N:=3) rfl ?_);refine sV (N:=3) (cs:= #[.int .i64 0,.slice none 0 0]) (t:=34) ?_;intro s hg w5 hbox hb;have c:=zM (hbox);have aa:=sG HB hg;have u:=sG HB hg;replace HB:=sB HB hb;have x:=sN a hg;have Q:=sM a hg;replace a:=sK a hb;have l:=sN b hg;have R:=sM b hg;replace b:=sK b hb;clear hb hbox hg;have ab:=O.out;have ac:=P.out;have ad:=x.out;have ae:=Q.out;obtain⟨af,ag,ah,ai⟩:=cells2 a.out;have aj:=R.out;have ak:=l.out;obtain⟨al,am,an,ao⟩:=cells2 c.out)|((with_reducible refine gate_callee (f:=44) rfl ?_);refine sC (some 9) Try.func44 #[.slice A0_1 l0_1.length c0_1] (laws_toObjectS.calls k _ _ l0_1 d _ ?side1 ?side2 L.out) ?_;(case side1=>exact zC J.out zzR);(case side2=>exact K.out);rintro e ap ⟨aq,rfl,y,hb⟩;refine⟨_,rfl,?_⟩;have z:=zM (Kd.S_lower y (below_size zzR));have A:=zM (blk_below (g:=M) (o:= .cells #[.int .i64 a0_0,.slice A0_1 l0_1.length c0_1] 24 (0,0)) (by(with_reducible repeat(first|refine blk_drewN ?_ _|refine blk_drew ?_|refine blk_alloc ?_ _));refine blk_far ?_ x.out _;exact sT a.out) hb);have B:=zM (blk_below (g:=i) (o:= .cells #[.int .i64 0,.slice none 0 0] 34 (0,0)) (by(with_reducible repeat(first|refine blk_drewN ?_ _|refine blk_drew ?_|refine blk_alloc ?_ _));refine blk_far ?_ l.out _;exact sT b.out) hb);have D:=zM (blk_below (g:=s) (o:= .cells #[.int .i64 a0_0,.slice none 0 0] 34 (0,0)) (by(with_reducible repeat(first|refine blk_drewN ?_ _|refine blk_drew ?_|refine blk_alloc ?_ _));refine blk_put (cs:= #[.int .i64 0,.slice none 0 0]) ?_ 0 _ rfl;exact sT c.out) hb);have E:=sB HB hb;clear a;clear b;clear c;clear HB;have F:=z;have a:=A;have b:=B;have c:=D;have HB:=E;clear z A B D E;(try clear hb);(try clear y);obtain⟨G,I,T⟩:=Kd.S_slice F.out;subst T;obtain⟨ar,au,av,aw⟩:=cells2 c.out;obtain⟨ax,ay,az,aA⟩:=cells2 b.out))
 refine bodyPost_ret (results_cell_row rfl _ _ i 34 #[.int .i64 a0_0,.slice G d.length I] (0,0) _ rfl (by(with_reducible repeat(first|refine blk_drewN ?_ _|refine blk_drew ?_|refine blk_alloc ?_ _));refine blk_put (cs:= #[.int .i64 a0_0,.slice none 0 0]) ?_ 1 _ rfl;(with_reducible repeat(first|refine blk_drewN ?_ _|refine blk_drew ?_|refine blk_alloc ?_ _));refine blk_put (cs:= #[.int .i64 0,.slice none 0 0]) ?_ 0 _ rfl;(with_reducible repeat(first|refine blk_drewN ?_ _|refine blk_drew ?_|refine blk_alloc ?_ _));refine blk_far ?_ l.out _;exact sT b.out) Try.underlying34 rfl (by kernel_rfl)) rfl ?_
 exact⟨_,sq,by(with_reducible repeat(first|apply Kd.S_alloc|apply Kd.S_drewN|apply Kd.S_drew));exact Kd.S_mono (sSF2 (g:=i) (Kd.S_far (p:=⟨s,1,none⟩) (Kd.S_types (Kd.S_types F.out c.out (by decide)) b.out (by decide)) (fun _ hk=>hk.1.2) (.slice G d.length I)) (fun _ hk=>hk.2)) (fun _ hk=>trivial),sb⟩
end Go.Proofs.Ytengilknjiobiaa.PFnExactPairsOf
