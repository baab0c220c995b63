/- Printed functions: laws_toRecordTypeS. -/
import Derived.Test.YtnneadpahjkhgaaYSmP0
import Derived.Test.YtnneadpahjkhgaaYSmPE
import Derived.Test.YtnneadpahjkhgaaYSmP8
namespace Go.Proofs.Ytnneadpahjkhgaa.PFnExactSameMemory
open Go.RowKit Go.Proofs.YtnneadpahjkhgaaG Go.Proofs.YtnneadpahjkhgaaW.PrintWords Go.Proofs.YtnneadpahjkhgaaW.PrintLast Go.Proofs.YtnneadpahjkhgaaW.PrintMore
attribute [local go_sem] max2_int min2_int max_two min_two max_three min_three max_four min_four
set_option linter.unusedVariables false
set_option linter.unusedSimpArgs false
section
attribute [local go_sem high] eqA114
def laws_toRecordTypeS.l0 : Nat → List (S138) → List (S109) → Int → Option ((List (S109)))
 |0,_,_,_=>none
 |k+1,x0,x3,x4=>if x4<(x0.length:Int)then(if 0≤x4 then((laws_toRecordType.f k ((rd_T138 x0 x4).f0) ((rd_T138 x0 x4).f1)).bind fun bt247=>(if x4<(x3.length:Int)then(laws_toRecordTypeS.l0 k x0 (x3.set (x4:Int).toNat (⟨bt247.1,bt247.2⟩:S109)) (wrap64 (x4+1)))else(none)))else(none))else(some x3)
def laws_toRecordTypeS.f (k:Nat) (l0:List (S138)):Option ((List (S109))):=if 0≤(l0.length:Int)then(if((l0.length:Int):Int).toNat≤7036874417766 then(laws_toRecordTypeS.l0 k l0 (List.replicate ((l0.length:Int):Int).toNat z109) 0)else(none))else(none)
set_option maxHeartbeats 8000000 in
set_option maxRecDepth 100000 in
theorem laws_toRecordTypeS.calls (k:Nat) (A0:Option Addr) (c0:Nat) (l0:List (S138)) (r:List (S109)) (w:World) (hr0:Kd.C k138 w A0 l0.length l0) (hc0:l0.length≤c0) (h:laws_toRecordTypeS.f k l0=some r):
  Calls Try.prog 66 #[.slice A0 l0.length c0] w fun e w'=>∃U:Value,e= .returned (U)∧Kd.S k109 109 w' w.heap.size (fun _=>True) U r∧Below w.heap.size w w':=by
 have aO:=Try.underlying138
 have aP:=Try.underlying109
 have an:=zM hr0
 have aQ:=zM hc0
 clear hr0 hc0
 have HB:=zM (Below.refl w.heap.size w)
 have H:(if 0≤(l0.length:Int)then(if((l0.length:Int):Int).toNat≤7036874417766 then(laws_toRecordTypeS.l0 k l0 (List.replicate ((l0.length:Int):Int).toNat z109) 0)else(none))else(none))=some r:=h
 clear h
 by_cases q:0≤(l0.length:Int)
 ·(
 rw[if_pos q]at H
 have c2b0:=eq_true q
 have c2b1:=zT q
 clear q
 by_cases s:((l0.length:Int):Int).toNat≤7036874417766
 ·(
 rw[if_pos s]at H
 have c3b0:=eq_true s
 have c3b1:=zT s
 clear s
 obtain⟨y243,hy243⟩:∃F:List (S109),F=(List.replicate ((l0.length:Int):Int).toNat z109):=⟨_,rfl⟩
 replace H:(laws_toRecordTypeS.l0 k l0 y243 0)=some r:=by first|(rw[hy243];with_reducible exact H)|(have i:=(Option.bind_some _ _).symm.trans H;rw[hy243];with_reducible exact i)|(have i:=(Option.bind_some _ _).symm.trans H;with_reducible exact i)|with_reducible exact H|(rw[hy243];exact H)|exact H
 have V:=zM hy243
 clear hy243
 have H':=zM H
 clear H
 go_enter Try.func66,Try.ntmps66
 go_wp2_with (first|((with_reducible refine gate_dst (N:=7) rfl ?_);refine Kd.S_make k109 _ 109 rfl (N:=7) rfl 55 _ _ rfl (l0.length:Int) rfl rfl Try.underlying55 (.agg #[(.string ⟨#[]⟩),(.slice none 0 0)]) 40 info109 rfl (by decide) (by omega) z109 (ok:=fun _=>True) (okp:=fun _=>True) (k109_mkM _ _ _ z109 (Kd.R_nil _ _ _ _ _)) (fun _ hk=>hk) trivial (zO (by first|(with_reducible assumption)|assumption)) (Nat.le_trans (Nat.mul_le_mul_right _ (zO (by first|(with_reducible assumption)|assumption):(l0.length:Int).toNat≤7036874417766)) (by omega)) (Below.refl _ _) (Nat.le_refl _) ?_;intro ao w4 x hb ap aq;clear ap aq;(first|rw[←V.out]at x|(simp only[Int.reduceToNat]at x;rw[←V.out]at x));have ar:=zM (Kd.S_lower x (below_size (sH HB.out)));replace HB:=sB HB hb;clear hb x))
 go_loopg [4] k (fun kq v4 w'=>∃(d:List (S109)) (a:Int),v4= .int .i64 a∧Aside0 (laws_toRecordTypeS.l0 kq l0 d a=some r)∧Aside0 (kq≤k)∧Aside0 (Kd.S k109 109 w' w.heap.size (fun _=>True) ao d)∧Aside0 (Below w.heap.size w w'))
 case atStart=>exact⟨(y243),(0),sr,H',⟨Nat.le_refl _⟩,⟨by exact sI ar.out⟩,⟨sb⟩⟩
 case round=>(
 clear H'
 try clear q
 try clear c2b0
 try clear c2b1
 try clear s
 try clear c3b0
 try clear c3b1
 obtain⟨d,a,rfl,HA,W,c,HB⟩:=hrel
 cases gk with
 |zero=>exact absurd HA.out (by simp[laws_toRecordTypeS.l0])
 |succ k1=>(
 have H:=HA.out
 clear HA
 simp only[laws_toRecordTypeS.l0]at H
 by_cases u:a<(l0.length:Int)
 ·(
 rw[if_pos u]at H
 have c6b0:=zT u
 clear u
 by_cases z:0≤a
 ·(
 rw[if_pos z]at H
 have c7b0:=zT z
 clear z
 replace H:=Option.bind_eq_some_iff.mp H
 obtain⟨⟨l,y⟩,X,H⟩:=H
 replace H:(if a<(d.length:Int)then(laws_toRecordTypeS.l0 k1 l0 (d.set (a:Int).toNat (⟨l,y⟩:S109)) (wrap64 (a+1)))else(none))=some r:=H
 have A8:=zM X
 clear X
 by_cases A:a<(d.length:Int)
 ·(
 rw[if_pos A]at H
 have c9b0:=zT A
 clear A
 obtain⟨y251,hy251⟩:∃F:List (S109),F=(d.set (a:Int).toNat (⟨l,y⟩:S109)):=⟨_,rfl⟩
 replace H:(laws_toRecordTypeS.l0 k1 l0 y251 (wrap64 (a+1)))=some r:=by first|(rw[hy251];with_reducible exact H)|(have i:=(Option.bind_some _ _).symm.trans H;rw[hy251];with_reducible exact i)|(have i:=(Option.bind_some _ _).symm.trans H;with_reducible exact i)|with_reducible exact H|(rw[hy251];exact H)|exact H
 have au:=zM hy251
 clear hy251
 have H':=zM H
 clear H
 have G:0≤(a:Int):=zO (by first|(with_reducible assumption)|assumption)
 have I:a<(l0.length:Int):=zO (by first|(with_reducible assumption)|assumption)
 obtain⟨aR,av,aw,ax,Y,Z,aa,ab⟩:=at_T138 an.out a G I
 cases ax
 replace Y:=sX HB Y
 replace Z:=sX HB Z
 have ay:=zM ab
 have az:=zM aa
 clear ab aa
 replace G:=eq_true G
 replace I:=eq_true I
 go_wp2_with (first|((with_reducible refine gate_callee (f:=93) rfl ?_);refine sC (some 20) Try.func93 #[.agg #[.string ((rd_T138 l0 a).f0),.slice av ((rd_T138 l0 a).f1).length aw]] (laws_toRecordType.calls k1 ((rd_T138 l0 a).f0) _ _ ((rd_T138 l0 a).f1) l y _ ?side1 ?side2 A8.out) ?_;(case side1=>exact sD (zC ay.out HB.out));(case side2=>exact az.out);rintro e m ⟨B,rfl,J,hb⟩;refine⟨_,rfl,?_⟩;replace c:=zM (Kd.S_elder' (sI c.out) (Kd.R_base J) hb);have D:=zM (Kd.R_lower J (below_size (sH HB.out)));replace HB:=sB HB hb;(try clear hb);(try clear J);have K:0≤(a:Int):=zO (by first|(with_reducible assumption)|assumption);have L:(a:Int)<((d.length:Int):Int):=zO (by first|(with_reducible assumption)|assumption);obtain⟨g,ac,ad,ae,aA,aS,af⟩:=Kd.S_form c.out (by omega);(first|cases ad|(injection ad with E aB aC;(first|subst E|(injection E with E;subst E));subst aC;clear aB));have ag:=zM ae;have aT:=zM af;clear ae aA af;obtain⟨_,aU,aD,ah,M,O,_,_⟩:=Kd.S_elem c.out z109 (a:Int) K L;obtain⟨aE,rfl,aV⟩:=k109_openM ah;have aW:m.cell? ⟨g,(a:Int).toNat*2,none⟩=some (.string ((rd_T109 d a).f0)):=M 0 _ rfl;have aX:m.cell? ⟨g,(a:Int).toNat*2+1,none⟩=some (aE):=M 1 _ rfl;have aY:m.frozen? ⟨g,(a:Int).toNat*2,none⟩=false:=O 0;have aZ:m.frozen? ⟨g,(a:Int).toNat*2+1,none⟩=false:=O 1;clear aD M O ah;replace K:=eq_true K;replace L:=eq_true L;have n_:=zM (Kd.S_mono (ok':=(fun b=>some b≠(B:Value).ownBlock)) c.out (fun b hk=>hk.2));clear c;have c:=n_;clear n_;have aF:=zM (show Kd.S k109 109 m w.heap.size (fun b=>((fun _=>True)) b∧¬((fun b=>some b=(B:Value).ownBlock)) b) (.slice (some ⟨g,0,none⟩) d.length ac) d from(by(with_reducible repeat(first|apply Kd.S_alloc|apply Kd.S_drewN|apply Kd.S_drew));exact Kd.S_mono c.out (fun b hk=>⟨trivial,fun n=>hk n⟩)));obtain⟨a0,a1,aG,ai,P,Q,aH,aj⟩:=Kd.S_elem aF.out z109 (a:Int) (zO (by first|(with_reducible assumption)|assumption)) (by have o:(a:Int)<((d.length:Int):Int):=zO (by first|(with_reducible assumption)|assumption);first|exact o|(have n:=(Kd.S_reads' c.out).1;omega)|simpa using o);obtain⟨a2,rfl,a3⟩:=k109_openM ai;have R:=Kd.S_seg aj (zO (by first|(with_reducible assumption)|assumption)) (by have o:(a:Int)<((d.length:Int):Int):=zO (by first|(with_reducible assumption)|assumption);first|exact o|(have n:=(Kd.S_reads' c.out).1;omega)|simpa using o) (seg:=[.string l,B]) (j:=0) (show 2≤2 from by decide) (x':=(⟨l,y⟩:S109)) (k109_mkM _ _ _ (⟨l,y⟩:S109) (Kd.R_mono (Kd.R_tight rfl (Kd.R_mono (ok':=fun b=>((fun _=>True)) b∧b≠g) (Kd.R_apart' (D.out) (Kd.S_typed c.out) (by decide)) (fun b hk=>⟨trivial,fun n=>(hk.2) (by rw[n];rfl)⟩))) (fun _ o=>Or.inr (o)))) (fun _ hk=>hk) (fun b aI=>((Kd.R_mono (ok':=fun b=>((fun _=>True)) b∧b≠g) (Kd.R_apart' (D.out) (Kd.S_typed c.out) (by decide)) (fun b hk=>⟨trivial,fun n=>(hk.2) (by rw[n];rfl)⟩))).1 b aI.symm);have aJ:=P 0 _ rfl;(try simp only[show(k109).sz=2 from rfl,Nat.mul_one,Nat.add_zero]at aJ);have aK:=Q 0;(try simp only[show(k109).sz=2 from rfl,Nat.mul_one,Nat.add_zero]at aK);have aL:=P 1 _ rfl;(try simp only[show(k109).sz=2 from rfl,Nat.mul_one,Nat.add_zero]at aL);have aM:=Q 1;(try simp only[show(k109).sz=2 from rfl,Nat.mul_one,Nat.add_zero]at aM);clear aG P Q ai aH aj)|((with_reducible refine gate_store (t:=109) (p:=21) rfl ?_);refine store_event (t:=109) (p:=21) (v:=?vo_w13) (w1:=((m.setCell ⟨g,(a:Int).toNat*2,none⟩ (.string l)).setCell ⟨g,(a:Int).toNat*2+1,none⟩ (B))) ?hg ?ho ?hn ?hr ?_;(case ho=>rfl);(case hg=>rfl);(case hn=>rfl);(case hr=>first|(go_simp;done)|(go_simp;rfl)|(obtain⟨_,_,aN⟩:=Kd.R_slice D.out;simp only[aN];first|(go_simp;done)|(go_simp;rfl)));intro T hw;have hg:m.grownBy T (some g):=(by rw[hw];exact R.2);have ak:Kd.S k109 109 T w.heap.size (fun _=>True) (.slice (some ⟨g,0,none⟩) d.length ac) y251:=(by rw[hw,au.out];exact R.1);clear R;have al:=zM (ak);have am:=zM ((by rw[hw];exact below_set (below_set (HB.out) ag.out) ag.out:Below w.heap.size w T));clear c;clear HB;clear D;have c:=al;have HB:=am;clear al am;clear hg hw ak))
 go_roundg k1
 case measure=>have:=W.out;omega
 case rel=>exact⟨(y251),(wrap64 (a+1)),sr,H',⟨by have:=W.out;omega⟩,⟨by exact sI c.out⟩,⟨sb⟩⟩)
 rw[if_neg A]at H
 exact absurd H (by simp))
 rw[if_neg z]at H
 exact absurd H (by simp))
 rw[if_neg u]at H
 have c6b0:=zF u
 clear u
 obtain rfl:=zI H
 go_wp2
 go_ret
 exact⟨_,sq,by exact sI c.out,sb⟩)))
 rw[if_neg s]at H
 exact absurd H (by simp))
 rw[if_neg q]at H
 exact absurd H (by simp)
end
end Go.Proofs.Ytnneadpahjkhgaa.PFnExactSameMemory
