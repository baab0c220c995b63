/- Printed functions: laws_markText, laws_markValueS. -/
import Derived.Test.YtengilknjiobiaaYPoP0
namespace Go.Proofs.Ytengilknjiobiaa.PFnExactPairsOf
open Go.RowKit Go.Proofs.YtengilknjiobiaaG Go.Proofs.YtengilknjiobiaaW.PrintWords Go.Proofs.YtengilknjiobiaaW.PrintLast Go.Proofs.YtengilknjiobiaaW.PrintMore
attribute [local go_sem] max2_int min2_int max_two min_two max_three min_three max_four min_four
set_option linter.unusedVariables false
set_option linter.unusedSimpArgs false
def laws_markText.l0 : Nat → Int → ByteArray → Option (ByteArray)
 |0,_,_=>none
 |k+1,x0,x3=>if x0>0 then((some (([(wrap64 (48+(Int.tmod x0 10)))%256]:List Int):List Int)).bind fun y433=>(if(strOfNums y433).size+x3.size≤9223372036854775807 then(laws_markText.l0 k (wrap64 (Int.tdiv x0 10)) ((strOfNums y433)++x3))else(none)))else(if 1+x3.size≤9223372036854775807 then(some ((⟨#[109]⟩:ByteArray)++x3))else(none))
def laws_markText.f (k:Nat) (a0:Int):Option (ByteArray):=if a0≤0 then(some (⟨#[109,48]⟩:ByteArray))else(laws_markText.l0 k a0 (⟨#[]⟩:ByteArray))
set_option maxHeartbeats 8000000 in
set_option maxRecDepth 100000 in
theorem laws_markText.calls (k:Nat) (a0:Int) (r:ByteArray) (w:World) (h:laws_markText.f k a0=some r):
  Calls Try.prog 60 #[.int .i64 a0] w fun e w'=>e= .returned (.string r)∧Below w.heap.size w w':=by
 have HB:=zM (Below.refl w.heap.size w)
 have H:(if a0≤0 then(some (⟨#[109,48]⟩:ByteArray))else(laws_markText.l0 k a0 (⟨#[]⟩:ByteArray)))=some r:=h
 clear h
 by_cases c:a0≤0
 ·(
 rw[if_pos c]at H
 have c2b0:=zT c
 clear c
 obtain rfl:=zI H
 go_enter Try.func60,Try.ntmps60
 go_wp2
 go_ret
 exact⟨sq,sb⟩)
 rw[if_neg c]at H
 have c2b0:=zF c
 clear c
 have H':=zM H
 clear H
 go_enter Try.func60,Try.ntmps60
 go_wp2
 go_loopg [0,3] k (fun kq q s w'=>∃(a:Int) (b:ByteArray),q= .int .i64 a∧s= .string b∧Aside0 (laws_markText.l0 kq a b=some r)∧Aside0 (kq≤k)∧Aside0 (Below w.heap.size w w'))
 case atStart=>exact⟨(a0),((⟨#[]⟩:ByteArray)),sr,sr,H',⟨Nat.le_refl _⟩,⟨sb⟩⟩
 case round=>(
 clear H'
 try clear c
 try clear c2b0
 obtain⟨a,b,rfl,rfl,HA,n,HB⟩:=hrel
 cases gk with
 |zero=>exact absurd HA.out (by simp[laws_markText.l0])
 |succ k1=>(
 have H:=HA.out
 clear HA
 simp only[laws_markText.l0]at H
 by_cases d:a>0
 ·(
 rw[if_pos d]at H
 have c3b0:decide (0<a)=true:=zT d
 clear d
 obtain⟨y433,hy433⟩:∃u:List Int,u=(([(wrap64 (48+(Int.tmod a 10)))%256]:List Int)):=⟨_,rfl⟩
 replace H:(if(strOfNums y433).size+b.size≤9223372036854775807 then(laws_markText.l0 k1 (wrap64 (Int.tdiv a 10)) ((strOfNums y433)++b))else(none))=some r:=by first|(rw[hy433];with_reducible exact H)|(have m:=(Option.bind_some _ _).symm.trans H;rw[hy433];with_reducible exact m)|(have m:=(Option.bind_some _ _).symm.trans H;with_reducible exact m)|with_reducible exact H|(rw[hy433];exact H)|exact H
 have o:=zM hy433
 clear hy433
 by_cases g:(strOfNums y433).size+b.size≤9223372036854775807
 ·(
 rw[if_pos g]at H
 have c4b0:=eq_true g
 have c4b1:=zT g
 try have c4b2:(9223372036854775807<(strOfNums y433).size+b.size)=False:=eq_false (Nat.not_lt.2 g)
 have H':=zM H
 clear H
 go_wp2_with (first|((with_reducible refine gate_dst (N:=12) rfl ?_);refine Kd.R_lit (Kd.int .u8) _ 5 ?hg (N:=12) ?hd (xs:=([(wrap64 (48+(Int.tmod a 10)))%256]:List Int)) (inner:=[.int .u8 ((wrap64 (48+(Int.tmod a 10)))%256)]) (ok:=fun _=>True) (okp:=fun _=>True) ?hr ?hp (fun _ hk=>hk) trivial (Below.refl _ _) (Nat.le_refl _) (by simp) ?_;(case hd=>rfl);(case hg=>rfl);(case hr=>first|(go_simp;done)|(go_simp;rfl));(case hp=>exact(Reps.one (show Kd.M (Kd.int .u8) _ _ _ ((wrap64 (48+(Int.tmod a 10)))%256) [.int .u8 ((wrap64 (48+(Int.tmod a 10)))%256)] from rfl) (Reps.none _ _)));intro A B i hb x y;clear x y;(first|rw[←o.out]at i|(simp only[Int.reduceToNat]at i;rw[←o.out]at i));have z:=zM (Kd.R_lower i (below_size (sH HB.out)));replace HB:=sB HB hb;clear hb i;have C:=own_string (P:=Try.prog) Try.underlying106 Try.underlying5 Try.underlying9 (Kd.own_of_R z.out)))
 go_roundg k1
 case measure=>have:=n.out;omega
 case rel=>exact⟨(wrap64 (Int.tdiv a 10)),((strOfNums y433)++b),sr,sr,H',⟨by have:=n.out;omega⟩,⟨sb⟩⟩)
 rw[if_neg g]at H
 exact absurd H (by simp))
 rw[if_neg d]at H
 have c3b0:decide (0<a)=false:=zF d
 clear d
 by_cases l:1+b.size≤9223372036854775807
 ·(
 rw[if_pos l]at H
 have c8b0:=eq_true l
 have c8b1:=zT l
 try have c8b2:(9223372036854775807<1+b.size)=False:=eq_false (Nat.not_lt.2 l)
 obtain rfl:=zI H
 go_wp2
 go_ret
 exact⟨sq,sb⟩)
 rw[if_neg l]at H
 exact absurd H (by simp)))
def laws_markValueS.l0 : Nat → List (S29) → Int → Int → Option (Int × (List (S29)))
 |0,_,_,_=>none
 |k+1,x0,x1,x5=>if x5<(x0.length:Int)then(if 0≤x5 then((some (x0.set (x5:Int).toNat (⟨x1,(rd_T29 x0 x5).f1,(rd_T29 x0 x5).f2,(rd_T29 x0 x5).f3⟩:S29):List (S29))).bind fun y436=>((some (y436.set (x5:Int).toNat (⟨(rd_T29 y436 x5).f0,wrap64 (x1+1),(rd_T29 y436 x5).f2,(rd_T29 y436 x5).f3⟩:S29):List (S29))).bind fun y437=>((laws_markText.f k (wrap64 ((wrap64 (x1+1))+1))).bind fun t438=>((some (y437.set (x5:Int).toNat (⟨(rd_T29 y437 x5).f0,(rd_T29 y437 x5).f1,t438,(rd_T29 y437 x5).f3⟩:S29):List (S29))).bind fun y439=>(laws_markValueS.l0 k (y439.set (x5:Int).toNat (⟨(rd_T29 y439 x5).f0,(rd_T29 y439 x5).f1,(rd_T29 y439 x5).f2,wrap64 ((wrap64 ((wrap64 (x1+1))+1))+1)⟩:S29)) (wrap64 ((wrap64 ((wrap64 ((wrap64 (x1+1))+1))+1))+1)) (wrap64 (x5+1)))))))else(none))else(some (x1,x0))
def laws_markValueS.f (k:Nat) (l0:List (S29)) (a1:Int):Option (Int×(List (S29))):=laws_markValueS.l0 k l0 a1 0
set_option maxHeartbeats 8000000 in
set_option maxRecDepth 100000 in
theorem laws_markValueS.calls (k:Nat) (P0_:Nat→Prop) (u9000_:Value) (l0:List (S29)) (a1:Int) (r1:Int) (r2:List (S29)) (w0 w:World) (hB:Below w0.heap.size w0 w) (ho0:Kd.R k29 29 w w0.heap.size P0_ u9000_ l0) (h:laws_markValueS.f k l0 a1=some (r1,r2)):
  Calls Try.prog 23 #[u9000_,.int .i64 a1] w fun e w'=>e= .returned (.int .i64 r1)∧Kd.R k29 29 w' w0.heap.size (fun b=>(P0_ b∨w.heap.size≤b)) u9000_ r2∧Below w0.heap.size w0 w'∧Kept w w' (fun b=>P0_ b):=by
 have aI:=zM (show Kd.R k29 29 w w0.heap.size (fun b=>(P0_ b∨w.heap.size≤b)) u9000_ l0 from Kd.R_mono ho0 (fun b hk=>(.inl hk)))
 have HK:=zM (Kept.refl w (fun b=>P0_ b))
 have a6:=zM hB.size
 have HB:=zM hB
 clear hB
 have H:(laws_markValueS.l0 k l0 a1 0)=some (r1,r2):=h
 clear h
 have H':=zM H
 clear H
 go_enter Try.func23,Try.ntmps23
 go_wp2
 go_loopg [1,5] k (fun kq v1 v5 w'=>∃(d:List (S29)) (i:Int) (a:Int),v1= .int .i64 i∧v5= .int .i64 a∧Aside0 (laws_markValueS.l0 kq d i a=some (r1,r2))∧Aside0 (kq≤k)∧Aside0 (Kd.R k29 29 w' w0.heap.size (fun b=>(P0_ b∨w.heap.size≤b)) u9000_ d)∧Aside0 (Kept w w' (fun b=>P0_ b))∧Aside0 (Below w0.heap.size w0 w'))
 case atStart=>exact⟨(l0),(a1),(0),sr,sr,H',⟨Nat.le_refl _⟩,⟨by exact sE aI.out⟩,⟨by repeat(first|(with_reducible first|exact HK.out|apply Kept.alloc|apply Kept.drewN|apply Kept.drew)|exact HK.out)⟩,⟨sb⟩⟩
 case round=>(
 clear H'
 obtain⟨d,i,a,rfl,rfl,HA,ai,g,HK,HB⟩:=hrel
 cases gk with
 |zero=>exact absurd HA.out (by simp[laws_markValueS.l0])
 |succ k1=>(
 have H:=HA.out
 clear HA
 simp only[laws_markValueS.l0]at H
 by_cases D:a<(d.length:Int)
 ·(
 rw[if_pos D]at H
 have c3b0:=zT D
 clear D
 by_cases Q:0≤a
 ·(
 rw[if_pos Q]at H
 have c4b0:=zT Q
 clear Q
 obtain⟨y436,hy436⟩:∃C:List (S29),C=(d.set (a:Int).toNat (⟨i,(rd_T29 d a).f1,(rd_T29 d a).f2,(rd_T29 d a).f3⟩:S29)):=⟨_,rfl⟩
 replace H:((some (y436.set (a:Int).toNat (⟨(rd_T29 y436 a).f0,wrap64 (i+1),(rd_T29 y436 a).f2,(rd_T29 y436 a).f3⟩:S29):List (S29))).bind fun y437=>((laws_markText.f k1 (wrap64 ((wrap64 (i+1))+1))).bind fun A=>((some (y437.set (a:Int).toNat (⟨(rd_T29 y437 a).f0,(rd_T29 y437 a).f1,A,(rd_T29 y437 a).f3⟩:S29):List (S29))).bind fun y439=>(laws_markValueS.l0 k1 (y439.set (a:Int).toNat (⟨(rd_T29 y439 a).f0,(rd_T29 y439 a).f1,(rd_T29 y439 a).f2,wrap64 ((wrap64 ((wrap64 (i+1))+1))+1)⟩:S29)) (wrap64 ((wrap64 ((wrap64 ((wrap64 (i+1))+1))+1))+1)) (wrap64 (a+1))))))=some (r1,r2):=by first|(rw[hy436];with_reducible exact H)|(have m:=(Option.bind_some _ _).symm.trans H;rw[hy436];with_reducible exact m)|(have m:=(Option.bind_some _ _).symm.trans H;with_reducible exact m)|with_reducible exact H|(rw[hy436];exact H)|exact H
 have aJ:=zM hy436
 clear hy436
 obtain⟨y437,hy437⟩:∃C:List (S29),C=(y436.set (a:Int).toNat (⟨(rd_T29 y436 a).f0,wrap64 (i+1),(rd_T29 y436 a).f2,(rd_T29 y436 a).f3⟩:S29)):=⟨_,rfl⟩
 replace H:((laws_markText.f k1 (wrap64 ((wrap64 (i+1))+1))).bind fun A=>((some (y437.set (a:Int).toNat (⟨(rd_T29 y437 a).f0,(rd_T29 y437 a).f1,A,(rd_T29 y437 a).f3⟩:S29):List (S29))).bind fun y439=>(laws_markValueS.l0 k1 (y439.set (a:Int).toNat (⟨(rd_T29 y439 a).f0,(rd_T29 y439 a).f1,(rd_T29 y439 a).f2,wrap64 ((wrap64 ((wrap64 (i+1))+1))+1)⟩:S29)) (wrap64 ((wrap64 ((wrap64 ((wrap64 (i+1))+1))+1))+1)) (wrap64 (a+1)))))=some (r1,r2):=by first|(rw[hy437];with_reducible exact H)|(have m:=(Option.bind_some _ _).symm.trans H;rw[hy437];with_reducible exact m)|(have m:=(Option.bind_some _ _).symm.trans H;with_reducible exact m)|with_reducible exact H|(rw[hy437];exact H)|exact H
 have aK:=zM hy437
 clear hy437
 obtain⟨A,A7,H⟩:=sO H
 obtain⟨y439,hy439⟩:∃C:List (S29),C=(y437.set (a:Int).toNat (⟨(rd_T29 y437 a).f0,(rd_T29 y437 a).f1,A,(rd_T29 y437 a).f3⟩:S29)):=⟨_,rfl⟩
 replace H:(laws_markValueS.l0 k1 (y439.set (a:Int).toNat (⟨(rd_T29 y439 a).f0,(rd_T29 y439 a).f1,(rd_T29 y439 a).f2,wrap64 ((wrap64 ((wrap64 (i+1))+1))+1)⟩:S29)) (wrap64 ((wrap64 ((wrap64 ((wrap64 (i+1))+1))+1))+1)) (wrap64 (a+1)))=some (r1,r2):=by first|(rw[hy439];with_reducible exact H)|(have m:=(Option.bind_some _ _).symm.trans H;rw[hy439];with_reducible exact m)|(have m:=(Option.bind_some _ _).symm.trans H;with_reducible exact m)|with_reducible exact H|(rw[hy439];exact H)|exact H
 have aL:=zM hy439
 clear hy439
 obtain⟨y440,hy440⟩:∃C:List (S29),C=(y439.set (a:Int).toNat (⟨(rd_T29 y439 a).f0,(rd_T29 y439 a).f1,(rd_T29 y439 a).f2,wrap64 ((wrap64 ((wrap64 (i+1))+1))+1)⟩:S29)):=⟨_,rfl⟩
 replace H:(laws_markValueS.l0 k1 y440 (wrap64 ((wrap64 ((wrap64 ((wrap64 (i+1))+1))+1))+1)) (wrap64 (a+1)))=some (r1,r2):=by first|(rw[hy440];with_reducible exact H)|(have m:=(Option.bind_some _ _).symm.trans H;rw[hy440];with_reducible exact m)|(have m:=(Option.bind_some _ _).symm.trans H;with_reducible exact m)|with_reducible exact H|(rw[hy440];exact H)|exact H
 have aM:=zM hy440
 clear hy440
 have H':=zM H
 clear H
 obtain⟨a7,B,aN⟩:=Kd.R_slice g.out
 subst aN
 have V:0≤(a:Int):=zzA
 have W:(a:Int)<((d.length:Int):Int):=zzA
 obtain⟨c,a8,aj,ak,aO,a9,al⟩:=Kd.R_form g.out (by omega)
 (first|cases aj|(injection aj with T aP aQ;(first|subst T|(injection T with T;subst T));subst aQ;clear aP))
 have U:=zM ak
 have ba:=zM al
 clear ak aO al
 have bb:=zM (show(P0_ c∨w.heap.size≤c) from(g.out.1 _ rfl))
 obtain⟨bc,aR,am,E,F⟩:=Kd.R_elem g.out z29 (a:Int) V W
 obtain rfl:=k29_openM am
 have bd:wr.cell? ⟨c,(a:Int).toNat*4,none⟩=some (.int .i64 ((rd_T29 d a).f0)):=E 0 _ rfl
 have be:wr.cell? ⟨c,(a:Int).toNat*4+1,none⟩=some (.int .i64 ((rd_T29 d a).f1)):=E 1 _ rfl
 have bf:wr.cell? ⟨c,(a:Int).toNat*4+2,none⟩=some (.string ((rd_T29 d a).f2)):=E 2 _ rfl
 have bg:wr.cell? ⟨c,(a:Int).toNat*4+3,none⟩=some (.int .i64 ((rd_T29 d a).f3)):=E 3 _ rfl
 have bh:wr.frozen? ⟨c,(a:Int).toNat*4,none⟩=false:=F 0
 have bi:wr.frozen? ⟨c,(a:Int).toNat*4+1,none⟩=false:=F 1
 have bj:wr.frozen? ⟨c,(a:Int).toNat*4+2,none⟩=false:=F 2
 have bk:wr.frozen? ⟨c,(a:Int).toNat*4+3,none⟩=false:=F 3
 clear aR E F am
 replace V:=eq_true V
 replace W:=eq_true W
 have an:=zM (show Kd.R k29 29 wr w0.heap.size (fun b=>(P0_ b∨w.heap.size≤b)) (.slice (some ⟨c,0,none⟩) d.length B) d from(sE g.out))
 obtain⟨bl,ao,ap,X,aq⟩:=Kd.R_elem an.out z29 (a:Int) (zzA) (by have l:(a:Int)<((d.length:Int):Int):=zzA;first|exact l|(have n:=(Kd.R_reads' g.out).1;omega)|simpa using l)
 obtain rfl:=k29_openM ap
 have Y:=Kd.R_seg an.out (a:Int) (zzA) (by have l:(a:Int)<((d.length:Int):Int):=zzA;first|exact l|(have n:=(Kd.R_reads' g.out).1;omega)|simpa using l) (seg:=[.int .i64 i]) (j:=0) ao X (show 1≤4 from by decide) (x':=(⟨i,(rd_T29 d a).f1,(rd_T29 d a).f2,(rd_T29 d a).f3⟩:S29)) (k29_mkM _ _ _ (⟨i,(rd_T29 d a).f1,(rd_T29 d a).f2,(rd_T29 d a).f3⟩:S29)) (fun _ hk=>hk)
 have aS:=X 0 _ rfl
 (try simp only[show(k29).sz=4 from rfl,Nat.mul_one,Nat.add_zero]at aS)
 have aT:=aq 0
 (try simp only[show(k29).sz=4 from rfl,Nat.mul_one,Nat.add_zero]at aT)
 clear ao X aq ap
 go_wp2_with (first|((with_reducible refine gate_store (t:=2) (p:=16) rfl ?_);refine store_event (t:=2) (p:=16) (v:=?vo_w12) (w1:=(wr.setCell ⟨c,(a:Int).toNat*4,none⟩ (.int .i64 i))) ?hg ?ho ?hn ?hr ?_;(case ho=>rfl);(case hg=>rfl);(case hn=>rfl);(case hr=>first|(go_simp;done)|(go_simp;rfl));intro o hw;have hg:wr.grownBy o (some c):=(by rw[hw];exact Y.2);have s:Kd.R k29 29 o w0.heap.size (fun b=>(P0_ b∨w.heap.size≤b)) (.slice (some ⟨c,0,none⟩) d.length B) y436:=(by rw[hw,aJ.out];exact Y.1);clear Y;have u:=zM (s);have x:=zM ((by rw[hw];exact below_set (HB.out) U.out:Below w0.heap.size w0 o));have y:=zM (Kept.of_grown (S:=(fun b=>P0_ b)) hg (by repeat(first|(with_reducible first|exact HK.out|apply Kept.alloc|apply Kept.drewN|apply Kept.drew)|exact HK.out)) (fun b n=>(g.out.1 b n)));clear g;clear HB;clear HK;have g:=u;have HB:=x;have HK:=y;clear u x y;clear hg hw s;have Z:0≤(a:Int):=zzA;have q6:(a:Int)<((d.length:Int):Int):=zzA;obtain⟨bm,aU,ar,G,I⟩:=Kd.R_elem g.out z29 (a:Int) Z q6;obtain rfl:=k29_openM ar;have bn:o.cell? ⟨c,(a:Int).toNat*4,none⟩=some (.int .i64 ((rd_T29 y436 a).f0)):=G 0 _ rfl;have bo:o.cell? ⟨c,(a:Int).toNat*4+1,none⟩=some (.int .i64 ((rd_T29 y436 a).f1)):=G 1 _ rfl;have bp:o.cell? ⟨c,(a:Int).toNat*4+2,none⟩=some (.string ((rd_T29 y436 a).f2)):=G 2 _ rfl;have bq:o.cell? ⟨c,(a:Int).toNat*4+3,none⟩=some (.int .i64 ((rd_T29 y436 a).f3)):=G 3 _ rfl;have br:o.frozen? ⟨c,(a:Int).toNat*4,none⟩=false:=I 0;have bs:o.frozen? ⟨c,(a:Int).toNat*4+1,none⟩=false:=I 1;have bt:o.frozen? ⟨c,(a:Int).toNat*4+2,none⟩=false:=I 2;have bu:o.frozen? ⟨c,(a:Int).toNat*4+3,none⟩=false:=I 3;clear aU G I ar;replace Z:=eq_true Z;replace q6:=eq_true q6;have au:=zM (show Kd.R k29 29 o w0.heap.size (fun b=>(P0_ b∨w.heap.size≤b)) (.slice (some ⟨c,0,none⟩) d.length B) y436 from(sE g.out));obtain⟨bv,av,aw,aa,ax⟩:=Kd.R_elem au.out z29 (a:Int) (zzA) (by have l:(a:Int)<((d.length:Int):Int):=zzA;first|exact l|(have n:=(Kd.R_reads' g.out).1;omega)|simpa using l);obtain rfl:=k29_openM aw;have ab:=Kd.R_seg au.out (a:Int) (zzA) (by have l:(a:Int)<((d.length:Int):Int):=zzA;first|exact l|(have n:=(Kd.R_reads' g.out).1;omega)|simpa using l) (seg:=[.int .i64 (wrap64 (i+1))]) (j:=1) av aa (show 2≤4 from by decide) (x':=(⟨(rd_T29 y436 a).f0,wrap64 (i+1),(rd_T29 y436 a).f2,(rd_T29 y436 a).f3⟩:S29)) (k29_mkM _ _ _ (⟨(rd_T29 y436 a).f0,wrap64 (i+1),(rd_T29 y436 a).f2,(rd_T29 y436 a).f3⟩:S29)) (fun _ hk=>hk);have aV:=aa 1 _ rfl;(try simp only[show(k29).sz=4 from rfl,Nat.mul_one,Nat.add_zero]at aV);have aW:=ax 1;(try simp only[show(k29).sz=4 from rfl,Nat.mul_one,Nat.add_zero]at aW);clear av aa ax aw)|((with_reducible refine gate_store (t:=2) (p:=23) rfl ?_);refine store_event (t:=2) (p:=23) (v:=?vo_w14) (w1:=(o.setCell ⟨c,(a:Int).toNat*4+1,none⟩ (.int .i64 (wrap64 (i+1))))) ?hg ?ho ?hn ?hr ?_;(case ho=>rfl);(case hg=>rfl);(case hn=>rfl);(case hr=>first|(go_simp;done)|(go_simp;rfl));intro ac hw;have hg:o.grownBy ac (some c):=(by rw[hw];exact ab.2);have s:Kd.R k29 29 ac w0.heap.size (fun b=>(P0_ b∨w.heap.size≤b)) (.slice (some ⟨c,0,none⟩) d.length B) y437:=(by rw[hw,aK.out];exact ab.1);clear ab;have u:=zM (s);have x:=zM ((by rw[hw];exact below_set (HB.out) U.out:Below w0.heap.size w0 ac));have y:=zM (Kept.of_grown (S:=(fun b=>P0_ b)) hg (by repeat(first|(with_reducible first|exact HK.out|apply Kept.alloc|apply Kept.drewN|apply Kept.drew)|exact HK.out)) (fun b n=>(g.out.1 b n)));clear g;clear HB;clear HK;have g:=u;have HB:=x;have HK:=y;clear u x y;clear hg hw s)|((with_reducible refine gate_callee (f:=60) rfl ?_);refine sC (some 29) Try.func60 #[.int .i64 (wrap64 ((wrap64 (i+1))+1))] (laws_markText.calls k1 (wrap64 ((wrap64 (i+1))+1)) A _ A7.out) ?_;rintro e z ⟨rfl,hb⟩;refine⟨_,rfl,?_⟩;replace g:=zM (Kd.R_below (sE g.out) hb);replace HK:=zM (Kept.below (S:=(fun b=>P0_ b)) (by repeat(first|(with_reducible first|exact HK.out|apply Kept.alloc|apply Kept.drewN|apply Kept.drew)|exact HK.out)) hb);replace HB:=sB HB hb;(try clear hb);(try clear hk);have p8:0≤(a:Int):=zzA;have q8:(a:Int)<((d.length:Int):Int):=zzA;obtain⟨bw,aX,ay,J,K⟩:=Kd.R_elem g.out z29 (a:Int) p8 q8;obtain rfl:=k29_openM ay;have bx:z.cell? ⟨c,(a:Int).toNat*4,none⟩=some (.int .i64 ((rd_T29 y437 a).f0)):=J 0 _ rfl;have bz:z.cell? ⟨c,(a:Int).toNat*4+1,none⟩=some (.int .i64 ((rd_T29 y437 a).f1)):=J 1 _ rfl;have bA:z.cell? ⟨c,(a:Int).toNat*4+2,none⟩=some (.string ((rd_T29 y437 a).f2)):=J 2 _ rfl;have bB:z.cell? ⟨c,(a:Int).toNat*4+3,none⟩=some (.int .i64 ((rd_T29 y437 a).f3)):=J 3 _ rfl;have bC:z.frozen? ⟨c,(a:Int).toNat*4,none⟩=false:=K 0;have bD:z.frozen? ⟨c,(a:Int).toNat*4+1,none⟩=false:=K 1;have bE:z.frozen? ⟨c,(a:Int).toNat*4+2,none⟩=false:=K 2;have bF:z.frozen? ⟨c,(a:Int).toNat*4+3,none⟩=false:=K 3;clear aX J K ay;replace p8:=eq_true p8;replace q8:=eq_true q8;have az:=zM (show Kd.R k29 29 z w0.heap.size (fun b=>(P0_ b∨w.heap.size≤b)) (.slice (some ⟨c,0,none⟩) d.length B) y437 from(sE g.out));obtain⟨bG,aA,aB,ad,aC⟩:=Kd.R_elem az.out z29 (a:Int) (zzA) (by have l:(a:Int)<((d.length:Int):Int):=zzA;first|exact l|(have n:=(Kd.R_reads' g.out).1;omega)|simpa using l);obtain rfl:=k29_openM aB;have ae:=Kd.R_seg az.out (a:Int) (zzA) (by have l:(a:Int)<((d.length:Int):Int):=zzA;first|exact l|(have n:=(Kd.R_reads' g.out).1;omega)|simpa using l) (seg:=[.string A]) (j:=2) aA ad (show 3≤4 from by decide) (x':=(⟨(rd_T29 y437 a).f0,(rd_T29 y437 a).f1,A,(rd_T29 y437 a).f3⟩:S29)) (k29_mkM _ _ _ (⟨(rd_T29 y437 a).f0,(rd_T29 y437 a).f1,A,(rd_T29 y437 a).f3⟩:S29)) (fun _ hk=>hk);have aY:=ad 2 _ rfl;(try simp only[show(k29).sz=4 from rfl,Nat.mul_one,Nat.add_zero]at aY);have aZ:=aC 2;(try simp only[show(k29).sz=4 from rfl,Nat.mul_one,Nat.add_zero]at aZ);clear aA ad aC aB)|((with_reducible refine gate_store (t:=9) (p:=31) rfl ?_);refine store_event (t:=9) (p:=31) (v:=?vo_w17) (w1:=(z.setCell ⟨c,(a:Int).toNat*4+2,none⟩ (.string A))) ?hg ?ho ?hn ?hr ?_;(case ho=>rfl);(case hg=>rfl);(case hn=>rfl);(case hr=>first|(go_simp;done)|(go_simp;rfl));intro q hw;have hg:z.grownBy q (some c):=(by rw[hw];exact ae.2);have s:Kd.R k29 29 q w0.heap.size (fun b=>(P0_ b∨w.heap.size≤b)) (.slice (some ⟨c,0,none⟩) d.length B) y439:=(by rw[hw,aL.out];exact ae.1);clear ae;have u:=zM (s);have x:=zM ((by rw[hw];exact below_set (HB.out) U.out:Below w0.heap.size w0 q));have y:=zM (Kept.of_grown (S:=(fun b=>P0_ b)) hg (by repeat(first|(with_reducible first|exact HK.out|apply Kept.alloc|apply Kept.drewN|apply Kept.drew)|exact HK.out)) (fun b n=>(g.out.1 b n)));clear g;clear HB;clear HK;have g:=u;have HB:=x;have HK:=y;clear u x y;clear hg hw s;have p9:0≤(a:Int):=zzA;have q9:(a:Int)<((d.length:Int):Int):=zzA;obtain⟨bH,a2,aD,L,O⟩:=Kd.R_elem g.out z29 (a:Int) p9 q9;obtain rfl:=k29_openM aD;have bI:q.cell? ⟨c,(a:Int).toNat*4,none⟩=some (.int .i64 ((rd_T29 y439 a).f0)):=L 0 _ rfl;have bJ:q.cell? ⟨c,(a:Int).toNat*4+1,none⟩=some (.int .i64 ((rd_T29 y439 a).f1)):=L 1 _ rfl;have bK:q.cell? ⟨c,(a:Int).toNat*4+2,none⟩=some (.string ((rd_T29 y439 a).f2)):=L 2 _ rfl;have bL:q.cell? ⟨c,(a:Int).toNat*4+3,none⟩=some (.int .i64 ((rd_T29 y439 a).f3)):=L 3 _ rfl;have bM:q.frozen? ⟨c,(a:Int).toNat*4,none⟩=false:=O 0;have bN:q.frozen? ⟨c,(a:Int).toNat*4+1,none⟩=false:=O 1;have bO:q.frozen? ⟨c,(a:Int).toNat*4+2,none⟩=false:=O 2;have bP:q.frozen? ⟨c,(a:Int).toNat*4+3,none⟩=false:=O 3;clear a2 L O aD;replace p9:=eq_true p9;replace q9:=eq_true q9;have aE:=zM (show Kd.R k29 29 q w0.heap.size (fun b=>(P0_ b∨w.heap.size≤b)) (.slice (some ⟨c,0,none⟩) d.length B) y439 from(sE g.out));obtain⟨bQ,aF,aG,af,aH⟩:=Kd.R_elem aE.out z29 (a:Int) (zzA) (by have l:(a:Int)<((d.length:Int):Int):=zzA;first|exact l|(have n:=(Kd.R_reads' g.out).1;omega)|simpa using l);obtain rfl:=k29_openM aG;have ag:=Kd.R_seg aE.out (a:Int) (zzA) (by have l:(a:Int)<((d.length:Int):Int):=zzA;first|exact l|(have n:=(Kd.R_reads' g.out).1;omega)|simpa using l) (seg:=[.int .i64 (wrap64 ((wrap64 ((wrap64 (i+1))+1))+1))]) (j:=3) aF af (show 4≤4 from by decide) (x':=(⟨(rd_T29 y439 a).f0,(rd_T29 y439 a).f1,(rd_T29 y439 a).f2,wrap64 ((wrap64 ((wrap64 (i+1))+1))+1)⟩:S29)) (k29_mkM _ _ _ (⟨(rd_T29 y439 a).f0,(rd_T29 y439 a).f1,(rd_T29 y439 a).f2,wrap64 ((wrap64 ((wrap64 (i+1))+1))+1)⟩:S29)) (fun _ hk=>hk);have a3:=af 3 _ rfl;(try simp only[show(k29).sz=4 from rfl,Nat.mul_one,Nat.add_zero]at a3);have a4:=aH 3;(try simp only[show(k29).sz=4 from rfl,Nat.mul_one,Nat.add_zero]at a4);clear aF af aH aG)|((with_reducible refine gate_store (t:=2) (p:=38) rfl ?_);refine store_event (t:=2) (p:=38) (v:=?vo_w19) (w1:=(q.setCell ⟨c,(a:Int).toNat*4+3,none⟩ (.int .i64 (wrap64 ((wrap64 ((wrap64 (i+1))+1))+1))))) ?hg ?ho ?hn ?hr ?_;(case ho=>rfl);(case hg=>rfl);(case hn=>rfl);(case hr=>first|(go_simp;done)|(go_simp;rfl));intro ah hw;have hg:q.grownBy ah (some c):=(by rw[hw];exact ag.2);have s:Kd.R k29 29 ah w0.heap.size (fun b=>(P0_ b∨w.heap.size≤b)) (.slice (some ⟨c,0,none⟩) d.length B) y440:=(by rw[hw,aM.out];exact ag.1);clear ag;have u:=zM (s);have x:=zM ((by rw[hw];exact below_set (HB.out) U.out:Below w0.heap.size w0 ah));have y:=zM (Kept.of_grown (S:=(fun b=>P0_ b)) hg (by repeat(first|(with_reducible first|exact HK.out|apply Kept.alloc|apply Kept.drewN|apply Kept.drew)|exact HK.out)) (fun b n=>(g.out.1 b n)));clear g;clear HB;clear HK;have g:=u;have HB:=x;have HK:=y;clear u x y;clear hg hw s))
 go_roundg k1
 case measure=>have:=ai.out;omega
 case rel=>exact⟨(y440),(wrap64 ((wrap64 ((wrap64 ((wrap64 (i+1))+1))+1))+1)),(wrap64 (a+1)),sr,sr,H',⟨by have:=ai.out;omega⟩,⟨by exact sE g.out⟩,⟨by repeat(first|(with_reducible first|exact HK.out|apply Kept.alloc|apply Kept.drewN|apply Kept.drew)|exact HK.out)⟩,⟨sb⟩⟩)
 rw[if_neg Q]at H
 exact absurd H (by simp))
 rw[if_neg D]at H
 have c3b0:=zF D
 clear D
 simp only[Option.some.injEq,Prod.mk.injEq]at H
 obtain⟨rfl,rfl⟩:=H
 obtain⟨bR,bS,a5⟩:=Kd.R_slice g.out
 subst a5
 go_wp2
 go_ret
 exact⟨sq,by exact sE g.out,sH HB.out,by repeat(first|(with_reducible first|exact HK.out|apply Kept.alloc|apply Kept.drewN|apply Kept.drew)|exact HK.out)⟩))
end Go.Proofs.Ytengilknjiobiaa.PFnExactPairsOf
