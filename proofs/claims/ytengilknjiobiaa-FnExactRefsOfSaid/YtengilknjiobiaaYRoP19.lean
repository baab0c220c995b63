/- Printed functions: laws_markText, laws_markValueS, laws_markObject. -/
import Derived.Test.YtengilknjiobiaaYRoP0
namespace Go.Proofs.Ytengilknjiobiaa.PFnExactRefsOf
open Go.RowKit Go.Proofs.YtengilknjiobiaaG Go.Proofs.YtengilknjiobiaaW.PrintWords Go.Proofs.YtengilknjiobiaaW.PrintLast Go.Proofs.YtengilknjiobiaaW.PrintMore
attribute [local go_sem] max2_int min2_int max_two min_two max_three min_three max_four min_four
set_option linter.unusedVariables false
set_option linter.unusedSimpArgs false
def laws_markText.l0 : Nat → Int → ByteArray → Option (ByteArray)
 |0,_,_=>none
 |k+1,x0,x3=>if x0>0 then((some (([(wrap64 (48+(Int.tmod x0 10)))%256]:List Int):List Int)).bind fun y450=>(if(strOfNums y450).size+x3.size≤9223372036854775807 then(laws_markText.l0 k (wrap64 (Int.tdiv x0 10)) ((strOfNums y450)++x3))else(none)))else(if 1+x3.size≤9223372036854775807 then(some ((⟨#[109]⟩:ByteArray)++x3))else(none))
def laws_markText.f (k:Nat) (a0:Int):Option (ByteArray):=if a0≤0 then(some (⟨#[109,48]⟩:ByteArray))else(laws_markText.l0 k a0 (⟨#[]⟩:ByteArray))
set_option maxHeartbeats 8000000 in
set_option maxRecDepth 100000 in
theorem laws_markText.calls (k:Nat) (a0:Int) (r:ByteArray) (w:World) (h:laws_markText.f k a0=some r):
  Calls Try.prog 60 #[.int .i64 a0] w fun e w'=>e= .returned (.string r)∧Below w.heap.size w w':=by
 have HB:=zM (Below.refl w.heap.size w)
 have H:(if a0≤0 then(some (⟨#[109,48]⟩:ByteArray))else(laws_markText.l0 k a0 (⟨#[]⟩:ByteArray)))=some r:=h
 clear h
 by_cases c:a0≤0
 ·(
 rw[if_pos c]at H
 have c2b0:=zT c
 clear c
 obtain rfl:=zI H
 go_enter Try.func60,Try.ntmps60
 go_wp2
 go_ret
 exact⟨sq,sb⟩)
 rw[if_neg c]at H
 have c2b0:=zF c
 clear c
 have H':=zM H
 clear H
 go_enter Try.func60,Try.ntmps60
 go_wp2
 go_loopg [0,3] k (fun kq q s w'=>∃(a:Int) (b:ByteArray),q= .int .i64 a∧s= .string b∧Aside0 (laws_markText.l0 kq a b=some r)∧Aside0 (kq≤k)∧Aside0 (Below w.heap.size w w'))
 case atStart=>exact⟨(a0),((⟨#[]⟩:ByteArray)),sr,sr,H',⟨Nat.le_refl _⟩,⟨sb⟩⟩
 case round=>(
 clear H'
 try clear c
 try clear c2b0
 obtain⟨a,b,rfl,rfl,HA,n,HB⟩:=hrel
 cases gk with
 |zero=>exact absurd HA.out (by simp[laws_markText.l0])
 |succ k1=>(
 have H:=HA.out
 clear HA
 simp only[laws_markText.l0]at H
 by_cases d:a>0
 ·(
 rw[if_pos d]at H
 have c3b0:decide (0<a)=true:=zT d
 clear d
 obtain⟨y450,hy450⟩:∃u:List Int,u=(([(wrap64 (48+(Int.tmod a 10)))%256]:List Int)):=⟨_,rfl⟩
 replace H:(if(strOfNums y450).size+b.size≤9223372036854775807 then(laws_markText.l0 k1 (wrap64 (Int.tdiv a 10)) ((strOfNums y450)++b))else(none))=some r:=by first|(rw[hy450];with_reducible exact H)|(have m:=(Option.bind_some _ _).symm.trans H;rw[hy450];with_reducible exact m)|(have m:=(Option.bind_some _ _).symm.trans H;with_reducible exact m)|with_reducible exact H|(rw[hy450];exact H)|exact H
 have o:=zM hy450
 clear hy450
 by_cases g:(strOfNums y450).size+b.size≤9223372036854775807
 ·(
 rw[if_pos g]at H
 have c4b0:=eq_true g
 have c4b1:=zT g
 try have c4b2:(9223372036854775807<(strOfNums y450).size+b.size)=False:=eq_false (Nat.not_lt.2 g)
 have H':=zM H
 clear H
 go_wp2_with (first|((with_reducible refine gate_dst (N:=12) rfl ?_);refine Kd.R_lit (Kd.int .u8) _ 5 ?hg (N:=12) ?hd (xs:=([(wrap64 (48+(Int.tmod a 10)))%256]:List Int)) (inner:=[.int .u8 ((wrap64 (48+(Int.tmod a 10)))%256)]) (ok:=fun _=>True) (okp:=fun _=>True) ?hr ?hp (fun _ hk=>hk) trivial (Below.refl _ _) (Nat.le_refl _) (by simp) ?_;(case hd=>rfl);(case hg=>rfl);(case hr=>first|(go_simp;done)|(go_simp;rfl));(case hp=>exact(Reps.one (show Kd.M (Kd.int .u8) _ _ _ ((wrap64 (48+(Int.tmod a 10)))%256) [.int .u8 ((wrap64 (48+(Int.tmod a 10)))%256)] from rfl) (Reps.none _ _)));intro A B i hb x y;clear x y;(first|rw[←o.out]at i|(simp only[Int.reduceToNat]at i;rw[←o.out]at i));have z:=zM (Kd.R_lower i (below_size (sH HB.out)));replace HB:=sB HB hb;clear hb i;have C:=own_string (P:=Try.prog) Try.underlying106 Try.underlying5 Try.underlying9 (Kd.own_of_R z.out)))
 go_roundg k1
 case measure=>have:=n.out;omega
 case rel=>exact⟨(wrap64 (Int.tdiv a 10)),((strOfNums y450)++b),sr,sr,H',⟨by have:=n.out;omega⟩,⟨sb⟩⟩)
 rw[if_neg g]at H
 exact absurd H (by simp))
 rw[if_neg d]at H
 have c3b0:decide (0<a)=false:=zF d
 clear d
 by_cases l:1+b.size≤9223372036854775807
 ·(
 rw[if_pos l]at H
 have c8b0:=eq_true l
 have c8b1:=zT l
 try have c8b2:(9223372036854775807<1+b.size)=False:=eq_false (Nat.not_lt.2 l)
 obtain rfl:=zI H
 go_wp2
 go_ret
 exact⟨sq,sb⟩)
 rw[if_neg l]at H
 exact absurd H (by simp)))
def laws_markValueS.l0 : Nat → List (S29) → Int → Int → Option (Int × (List (S29)))
 |0,_,_,_=>none
 |k+1,x0,x1,x5=>if x5<(x0.length:Int)then(if 0≤x5 then((some (x0.set (x5:Int).toNat (⟨x1,(rd_T29 x0 x5).f1,(rd_T29 x0 x5).f2,(rd_T29 x0 x5).f3⟩:S29):List (S29))).bind fun y453=>((some (y453.set (x5:Int).toNat (⟨(rd_T29 y453 x5).f0,wrap64 (x1+1),(rd_T29 y453 x5).f2,(rd_T29 y453 x5).f3⟩:S29):List (S29))).bind fun y454=>((laws_markText.f k (wrap64 ((wrap64 (x1+1))+1))).bind fun t455=>((some (y454.set (x5:Int).toNat (⟨(rd_T29 y454 x5).f0,(rd_T29 y454 x5).f1,t455,(rd_T29 y454 x5).f3⟩:S29):List (S29))).bind fun y456=>(laws_markValueS.l0 k (y456.set (x5:Int).toNat (⟨(rd_T29 y456 x5).f0,(rd_T29 y456 x5).f1,(rd_T29 y456 x5).f2,wrap64 ((wrap64 ((wrap64 (x1+1))+1))+1)⟩:S29)) (wrap64 ((wrap64 ((wrap64 ((wrap64 (x1+1))+1))+1))+1)) (wrap64 (x5+1)))))))else(none))else(some (x1,x0))
def laws_markValueS.f (k:Nat) (l0:List (S29)) (a1:Int):Option (Int×(List (S29))):=laws_markValueS.l0 k l0 a1 0
set_option maxHeartbeats 8000000 in
set_option maxRecDepth 100000 in
theorem laws_markValueS.calls (k:Nat) (P0_:Nat→Prop) (u9000_:Value) (l0:List (S29)) (a1:Int) (r1:Int) (r2:List (S29)) (w0 w:World) (hB:Below w0.heap.size w0 w) (ho0:Kd.R k29 29 w w0.heap.size P0_ u9000_ l0) (h:laws_markValueS.f k l0 a1=some (r1,r2)):
  Calls Try.prog 23 #[u9000_,.int .i64 a1] w fun e w'=>e= .returned (.int .i64 r1)∧Kd.R k29 29 w' w0.heap.size (fun b=>(P0_ b∨w.heap.size≤b)) u9000_ r2∧Below w0.heap.size w0 w'∧Kept w w' (fun b=>P0_ b):=by
 have aI:=zM (show Kd.R k29 29 w w0.heap.size (fun b=>(P0_ b∨w.heap.size≤b)) u9000_ l0 from Kd.R_mono ho0 (fun b hk=>(.inl hk)))
 have HK:=zM (Kept.refl w (fun b=>P0_ b))
 have a6:=zM hB.size
 have HB:=zM hB
 clear hB
 have H:(laws_markValueS.l0 k l0 a1 0)=some (r1,r2):=h
 clear h
 have H':=zM H
 clear H
 go_enter Try.func23,Try.ntmps23
 go_wp2
 go_loopg [1,5] k (fun kq v1 v5 w'=>∃(d:List (S29)) (i:Int) (a:Int),v1= .int .i64 i∧v5= .int .i64 a∧Aside0 (laws_markValueS.l0 kq d i a=some (r1,r2))∧Aside0 (kq≤k)∧Aside0 (Kd.R k29 29 w' w0.heap.size (fun b=>(P0_ b∨w.heap.size≤b)) u9000_ d)∧Aside0 (Kept w w' (fun b=>P0_ b))∧Aside0 (Below w0.heap.size w0 w'))
 case atStart=>exact⟨(l0),(a1),(0),sr,sr,H',⟨Nat.le_refl _⟩,⟨by exact sE aI.out⟩,⟨by repeat(first|(with_reducible first|exact HK.out|apply Kept.alloc|apply Kept.drewN|apply Kept.drew)|exact HK.out)⟩,⟨sb⟩⟩
 case round=>(
 clear H'
 obtain⟨d,i,a,rfl,rfl,HA,ai,g,HK,HB⟩:=hrel
 cases gk with
 |zero=>exact absurd HA.out (by simp[laws_markValueS.l0])
 |succ k1=>(
 have H:=HA.out
 clear HA
 simp only[laws_markValueS.l0]at H
 by_cases D:a<(d.length:Int)
 ·(
 rw[if_pos D]at H
 have c3b0:=zT D
 clear D
 by_cases Q:0≤a
 ·(
 rw[if_pos Q]at H
 have c4b0:=zT Q
 clear Q
 obtain⟨y453,hy453⟩:∃C:List (S29),C=(d.set (a:Int).toNat (⟨i,(rd_T29 d a).f1,(rd_T29 d a).f2,(rd_T29 d a).f3⟩:S29)):=⟨_,rfl⟩
 replace H:((some (y453.set (a:Int).toNat (⟨(rd_T29 y453 a).f0,wrap64 (i+1),(rd_T29 y453 a).f2,(rd_T29 y453 a).f3⟩:S29):List (S29))).bind fun y454=>((laws_markText.f k1 (wrap64 ((wrap64 (i+1))+1))).bind fun A=>((some (y454.set (a:Int).toNat (⟨(rd_T29 y454 a).f0,(rd_T29 y454 a).f1,A,(rd_T29 y454 a).f3⟩:S29):List (S29))).bind fun y456=>(laws_markValueS.l0 k1 (y456.set (a:Int).toNat (⟨(rd_T29 y456 a).f0,(rd_T29 y456 a).f1,(rd_T29 y456 a).f2,wrap64 ((wrap64 ((wrap64 (i+1))+1))+1)⟩:S29)) (wrap64 ((wrap64 ((wrap64 ((wrap64 (i+1))+1))+1))+1)) (wrap64 (a+1))))))=some (r1,r2):=by first|(rw[hy453];with_reducible exact H)|(have m:=(Option.bind_some _ _).symm.trans H;rw[hy453];with_reducible exact m)|(have m:=(Option.bind_some _ _).symm.trans H;with_reducible exact m)|with_reducible exact H|(rw[hy453];exact H)|exact H
 have aJ:=zM hy453
 clear hy453
 obtain⟨y454,hy454⟩:∃C:List (S29),C=(y453.set (a:Int).toNat (⟨(rd_T29 y453 a).f0,wrap64 (i+1),(rd_T29 y453 a).f2,(rd_T29 y453 a).f3⟩:S29)):=⟨_,rfl⟩
 replace H:((laws_markText.f k1 (wrap64 ((wrap64 (i+1))+1))).bind fun A=>((some (y454.set (a:Int).toNat (⟨(rd_T29 y454 a).f0,(rd_T29 y454 a).f1,A,(rd_T29 y454 a).f3⟩:S29):List (S29))).bind fun y456=>(laws_markValueS.l0 k1 (y456.set (a:Int).toNat (⟨(rd_T29 y456 a).f0,(rd_T29 y456 a).f1,(rd_T29 y456 a).f2,wrap64 ((wrap64 ((wrap64 (i+1))+1))+1)⟩:S29)) (wrap64 ((wrap64 ((wrap64 ((wrap64 (i+1))+1))+1))+1)) (wrap64 (a+1)))))=some (r1,r2):=by first|(rw[hy454];with_reducible exact H)|(have m:=(Option.bind_some _ _).symm.trans H;rw[hy454];with_reducible exact m)|(have m:=(Option.bind_some _ _).symm.trans H;with_reducible exact m)|with_reducible exact H|(rw[hy454];exact H)|exact H
 have aK:=zM hy454
 clear hy454
 obtain⟨A,A7,H⟩:=sO H
 obtain⟨y456,hy456⟩:∃C:List (S29),C=(y454.set (a:Int).toNat (⟨(rd_T29 y454 a).f0,(rd_T29 y454 a).f1,A,(rd_T29 y454 a).f3⟩:S29)):=⟨_,rfl⟩
 replace H:(laws_markValueS.l0 k1 (y456.set (a:Int).toNat (⟨(rd_T29 y456 a).f0,(rd_T29 y456 a).f1,(rd_T29 y456 a).f2,wrap64 ((wrap64 ((wrap64 (i+1))+1))+1)⟩:S29)) (wrap64 ((wrap64 ((wrap64 ((wrap64 (i+1))+1))+1))+1)) (wrap64 (a+1)))=some (r1,r2):=by first|(rw[hy456];with_reducible exact H)|(have m:=(Option.bind_some _ _).symm.trans H;rw[hy456];with_reducible exact m)|(have m:=(Option.bind_some _ _).symm.trans H;with_reducible exact m)|with_reducible exact H|(rw[hy456];exact H)|exact H
 have aL:=zM hy456
 clear hy456
 obtain⟨y457,hy457⟩:∃C:List (S29),C=(y456.set (a:Int).toNat (⟨(rd_T29 y456 a).f0,(rd_T29 y456 a).f1,(rd_T29 y456 a).f2,wrap64 ((wrap64 ((wrap64 (i+1))+1))+1)⟩:S29)):=⟨_,rfl⟩
 replace H:(laws_markValueS.l0 k1 y457 (wrap64 ((wrap64 ((wrap64 ((wrap64 (i+1))+1))+1))+1)) (wrap64 (a+1)))=some (r1,r2):=by first|(rw[hy457];with_reducible exact H)|(have m:=(Option.bind_some _ _).symm.trans H;rw[hy457];with_reducible exact m)|(have m:=(Option.bind_some _ _).symm.trans H;with_reducible exact m)|with_reducible exact H|(rw[hy457];exact H)|exact H
 have aM:=zM hy457
 clear hy457
 have H':=zM H
 clear H
 obtain⟨a7,B,aN⟩:=Kd.R_slice g.out
 subst aN
 have V:0≤(a:Int):=zzA
 have W:(a:Int)<((d.length:Int):Int):=zzA
 obtain⟨c,a8,aj,ak,aO,a9,al⟩:=Kd.R_form g.out (by omega)
 (first|cases aj|(injection aj with T aP aQ;(first|subst T|(injection T with T;subst T));subst aQ;clear aP))
 have U:=zM ak
 have ba:=zM al
 clear ak aO al
 have bb:=zM (show(P0_ c∨w.heap.size≤c) from(g.out.1 _ rfl))
 obtain⟨bc,aR,am,E,F⟩:=Kd.R_elem g.out z29 (a:Int) V W
 obtain rfl:=k29_openM am
 have bd:wr.cell? ⟨c,(a:Int).toNat*4,none⟩=some (.int .i64 ((rd_T29 d a).f0)):=E 0 _ rfl
 have be:wr.cell? ⟨c,(a:Int).toNat*4+1,none⟩=some (.int .i64 ((rd_T29 d a).f1)):=E 1 _ rfl
 have bf:wr.cell? ⟨c,(a:Int).toNat*4+2,none⟩=some (.string ((rd_T29 d a).f2)):=E 2 _ rfl
 have bg:wr.cell? ⟨c,(a:Int).toNat*4+3,none⟩=some (.int .i64 ((rd_T29 d a).f3)):=E 3 _ rfl
 have bh:wr.frozen? ⟨c,(a:Int).toNat*4,none⟩=false:=F 0
 have bi:wr.frozen? ⟨c,(a:Int).toNat*4+1,none⟩=false:=F 1
 have bj:wr.frozen? ⟨c,(a:Int).toNat*4+2,none⟩=false:=F 2
 have bk:wr.frozen? ⟨c,(a:Int).toNat*4+3,none⟩=false:=F 3
 clear aR E F am
 replace V:=eq_true V
 replace W:=eq_true W
 have an:=zM (show Kd.R k29 29 wr w0.heap.size (fun b=>(P0_ b∨w.heap.size≤b)) (.slice (some ⟨c,0,none⟩) d.length B) d from(sE g.out))
 obtain⟨bl,ao,ap,X,aq⟩:=Kd.R_elem an.out z29 (a:Int) (zzA) (by have l:(a:Int)<((d.length:Int):Int):=zzA;first|exact l|(have n:=(Kd.R_reads' g.out).1;omega)|simpa using l)
 obtain rfl:=k29_openM ap
 have Y:=Kd.R_seg an.out (a:Int) (zzA) (by have l:(a:Int)<((d.length:Int):Int):=zzA;first|exact l|(have n:=(Kd.R_reads' g.out).1;omega)|simpa using l) (seg:=[.int .i64 i]) (j:=0) ao X (show 1≤4 from by decide) (x':=(⟨i,(rd_T29 d a).f1,(rd_T29 d a).f2,(rd_T29 d a).f3⟩:S29)) (k29_mkM _ _ _ (⟨i,(rd_T29 d a).f1,(rd_T29 d a).f2,(rd_T29 d a).f3⟩:S29)) (fun _ hk=>hk)
 have aS:=X 0 _ rfl
 (try simp only[show(k29).sz=4 from rfl,Nat.mul_one,Nat.add_zero]at aS)
 have aT:=aq 0
 (try simp only[show(k29).sz=4 from rfl,Nat.mul_one,Nat.add_zero]at aT)
 clear ao X aq ap
 go_wp2_with (first|((with_reducible refine gate_store (t:=2) (p:=16) rfl ?_);refine store_event (t:=2) (p:=16) (v:=?vo_w12) (w1:=(wr.setCell ⟨c,(a:Int).toNat*4,none⟩ (.int .i64 i))) ?hg ?ho ?hn ?hr ?_;(case ho=>rfl);(case hg=>rfl);(case hn=>rfl);(case hr=>first|(go_simp;done)|(go_simp;rfl));intro o hw;have hg:wr.grownBy o (some c):=(by rw[hw];exact Y.2);have s:Kd.R k29 29 o w0.heap.size (fun b=>(P0_ b∨w.heap.size≤b)) (.slice (some ⟨c,0,none⟩) d.length B) y453:=(by rw[hw,aJ.out];exact Y.1);clear Y;have u:=zM (s);have x:=zM ((by rw[hw];exact below_set (HB.out) U.out:Below w0.heap.size w0 o));have y:=zM (Kept.of_grown (S:=(fun b=>P0_ b)) hg (by repeat(first|(with_reducible first|exact HK.out|apply Kept.alloc|apply Kept.drewN|apply Kept.drew)|exact HK.out)) (fun b n=>(g.out.1 b n)));clear g;clear HB;clear HK;have g:=u;have HB:=x;have HK:=y;clear u x y;clear hg hw s;have Z:0≤(a:Int):=zzA;have q6:(a:Int)<((d.length:Int):Int):=zzA;obtain⟨bm,aU,ar,G,I⟩:=Kd.R_elem g.out z29 (a:Int) Z q6;obtain rfl:=k29_openM ar;have bn:o.cell? ⟨c,(a:Int).toNat*4,none⟩=some (.int .i64 ((rd_T29 y453 a).f0)):=G 0 _ rfl;have bo:o.cell? ⟨c,(a:Int).toNat*4+1,none⟩=some (.int .i64 ((rd_T29 y453 a).f1)):=G 1 _ rfl;have bp:o.cell? ⟨c,(a:Int).toNat*4+2,none⟩=some (.string ((rd_T29 y453 a).f2)):=G 2 _ rfl;have bq:o.cell? ⟨c,(a:Int).toNat*4+3,none⟩=some (.int .i64 ((rd_T29 y453 a).f3)):=G 3 _ rfl;have br:o.frozen? ⟨c,(a:Int).toNat*4,none⟩=false:=I 0;have bs:o.frozen? ⟨c,(a:Int).toNat*4+1,none⟩=false:=I 1;have bt:o.frozen? ⟨c,(a:Int).toNat*4+2,none⟩=false:=I 2;have bu:o.frozen? ⟨c,(a:Int).toNat*4+3,none⟩=false:=I 3;clear aU G I ar;replace Z:=eq_true Z;replace q6:=eq_true q6;have au:=zM (show Kd.R k29 29 o w0.heap.size (fun b=>(P0_ b∨w.heap.size≤b)) (.slice (some ⟨c,0,none⟩) d.length B) y453 from(sE g.out));obtain⟨bv,av,aw,aa,ax⟩:=Kd.R_elem au.out z29 (a:Int) (zzA) (by have l:(a:Int)<((d.length:Int):Int):=zzA;first|exact l|(have n:=(Kd.R_reads' g.out).1;omega)|simpa using l);obtain rfl:=k29_openM aw;have ab:=Kd.R_seg au.out (a:Int) (zzA) (by have l:(a:Int)<((d.length:Int):Int):=zzA;first|exact l|(have n:=(Kd.R_reads' g.out).1;omega)|simpa using l) (seg:=[.int .i64 (wrap64 (i+1))]) (j:=1) av aa (show 2≤4 from by decide) (x':=(⟨(rd_T29 y453 a).f0,wrap64 (i+1),(rd_T29 y453 a).f2,(rd_T29 y453 a).f3⟩:S29)) (k29_mkM _ _ _ (⟨(rd_T29 y453 a).f0,wrap64 (i+1),(rd_T29 y453 a).f2,(rd_T29 y453 a).f3⟩:S29)) (fun _ hk=>hk);have aV:=aa 1 _ rfl;(try simp only[show(k29).sz=4 from rfl,Nat.mul_one,Nat.add_zero]at aV);have aW:=ax 1;(try simp only[show(k29).sz=4 from rfl,Nat.mul_one,Nat.add_zero]at aW);clear av aa ax aw)|((with_reducible refine gate_store (t:=2) (p:=23) rfl ?_);refine store_event (t:=2) (p:=23) (v:=?vo_w14) (w1:=(o.setCell ⟨c,(a:Int).toNat*4+1,none⟩ (.int .i64 (wrap64 (i+1))))) ?hg ?ho ?hn ?hr ?_;(case ho=>rfl);(case hg=>rfl);(case hn=>rfl);(case hr=>first|(go_simp;done)|(go_simp;rfl));intro ac hw;have hg:o.grownBy ac (some c):=(by rw[hw];exact ab.2);have s:Kd.R k29 29 ac w0.heap.size (fun b=>(P0_ b∨w.heap.size≤b)) (.slice (some ⟨c,0,none⟩) d.length B) y454:=(by rw[hw,aK.out];exact ab.1);clear ab;have u:=zM (s);have x:=zM ((by rw[hw];exact below_set (HB.out) U.out:Below w0.heap.size w0 ac));have y:=zM (Kept.of_grown (S:=(fun b=>P0_ b)) hg (by repeat(first|(with_reducible first|exact HK.out|apply Kept.alloc|apply Kept.drewN|apply Kept.drew)|exact HK.out)) (fun b n=>(g.out.1 b n)));clear g;clear HB;clear HK;have g:=u;have HB:=x;have HK:=y;clear u x y;clear hg hw s)|((with_reducible refine gate_callee (f:=60) rfl ?_);refine sC (some 29) Try.func60 #[.int .i64 (wrap64 ((wrap64 (i+1))+1))] (laws_markText.calls k1 (wrap64 ((wrap64 (i+1))+1)) A _ A7.out) ?_;rintro e z ⟨rfl,hb⟩;refine⟨_,rfl,?_⟩;replace g:=zM (Kd.R_below (sE g.out) hb);replace HK:=zM (Kept.below (S:=(fun b=>P0_ b)) (by repeat(first|(with_reducible first|exact HK.out|apply Kept.alloc|apply Kept.drewN|apply Kept.drew)|exact HK.out)) hb);replace HB:=sB HB hb;(try clear hb);(try clear hk);have p8:0≤(a:Int):=zzA;have q8:(a:Int)<((d.length:Int):Int):=zzA;obtain⟨bw,aX,ay,J,K⟩:=Kd.R_elem g.out z29 (a:Int) p8 q8;obtain rfl:=k29_openM ay;have bx:z.cell? ⟨c,(a:Int).toNat*4,none⟩=some (.int .i64 ((rd_T29 y454 a).f0)):=J 0 _ rfl;have bz:z.cell? ⟨c,(a:Int).toNat*4+1,none⟩=some (.int .i64 ((rd_T29 y454 a).f1)):=J 1 _ rfl;have bA:z.cell? ⟨c,(a:Int).toNat*4+2,none⟩=some (.string ((rd_T29 y454 a).f2)):=J 2 _ rfl;have bB:z.cell? ⟨c,(a:Int).toNat*4+3,none⟩=some (.int .i64 ((rd_T29 y454 a).f3)):=J 3 _ rfl;have bC:z.frozen? ⟨c,(a:Int).toNat*4,none⟩=false:=K 0;have bD:z.frozen? ⟨c,(a:Int).toNat*4+1,none⟩=false:=K 1;have bE:z.frozen? ⟨c,(a:Int).toNat*4+2,none⟩=false:=K 2;have bF:z.frozen? ⟨c,(a:Int).toNat*4+3,none⟩=false:=K 3;clear aX J K ay;replace p8:=eq_true p8;replace q8:=eq_true q8;have az:=zM (show Kd.R k29 29 z w0.heap.size (fun b=>(P0_ b∨w.heap.size≤b)) (.slice (some ⟨c,0,none⟩) d.length B) y454 from(sE g.out));obtain⟨bG,aA,aB,ad,aC⟩:=Kd.R_elem az.out z29 (a:Int) (zzA) (by have l:(a:Int)<((d.length:Int):Int):=zzA;first|exact l|(have n:=(Kd.R_reads' g.out).1;omega)|simpa using l);obtain rfl:=k29_openM aB;have ae:=Kd.R_seg az.out (a:Int) (zzA) (by have l:(a:Int)<((d.length:Int):Int):=zzA;first|exact l|(have n:=(Kd.R_reads' g.out).1;omega)|simpa using l) (seg:=[.string A]) (j:=2) aA ad (show 3≤4 from by decide) (x':=(⟨(rd_T29 y454 a).f0,(rd_T29 y454 a).f1,A,(rd_T29 y454 a).f3⟩:S29)) (k29_mkM _ _ _ (⟨(rd_T29 y454 a).f0,(rd_T29 y454 a).f1,A,(rd_T29 y454 a).f3⟩:S29)) (fun _ hk=>hk);have aY:=ad 2 _ rfl;(try simp only[show(k29).sz=4 from rfl,Nat.mul_one,Nat.add_zero]at aY);have aZ:=aC 2;(try simp only[show(k29).sz=4 from rfl,Nat.mul_one,Nat.add_zero]at aZ);clear aA ad aC aB)|((with_reducible refine gate_store (t:=9) (p:=31) rfl ?_);refine store_event (t:=9) (p:=31) (v:=?vo_w17) (w1:=(z.setCell ⟨c,(a:Int).toNat*4+2,none⟩ (.string A))) ?hg ?ho ?hn ?hr ?_;(case ho=>rfl);(case hg=>rfl);(case hn=>rfl);(case hr=>first|(go_simp;done)|(go_simp;rfl));intro q hw;have hg:z.grownBy q (some c):=(by rw[hw];exact ae.2);have s:Kd.R k29 29 q w0.heap.size (fun b=>(P0_ b∨w.heap.size≤b)) (.slice (some ⟨c,0,none⟩) d.length B) y456:=(by rw[hw,aL.out];exact ae.1);clear ae;have u:=zM (s);have x:=zM ((by rw[hw];exact below_set (HB.out) U.out:Below w0.heap.size w0 q));have y:=zM (Kept.of_grown (S:=(fun b=>P0_ b)) hg (by repeat(first|(with_reducible first|exact HK.out|apply Kept.alloc|apply Kept.drewN|apply Kept.drew)|exact HK.out)) (fun b n=>(g.out.1 b n)));clear g;clear HB;clear HK;have g:=u;have HB:=x;have HK:=y;clear u x y;clear hg hw s;have p9:0≤(a:Int):=zzA;have q9:(a:Int)<((d.length:Int):Int):=zzA;obtain⟨bH,a2,aD,L,O⟩:=Kd.R_elem g.out z29 (a:Int) p9 q9;obtain rfl:=k29_openM aD;have bI:q.cell? ⟨c,(a:Int).toNat*4,none⟩=some (.int .i64 ((rd_T29 y456 a).f0)):=L 0 _ rfl;have bJ:q.cell? ⟨c,(a:Int).toNat*4+1,none⟩=some (.int .i64 ((rd_T29 y456 a).f1)):=L 1 _ rfl;have bK:q.cell? ⟨c,(a:Int).toNat*4+2,none⟩=some (.string ((rd_T29 y456 a).f2)):=L 2 _ rfl;have bL:q.cell? ⟨c,(a:Int).toNat*4+3,none⟩=some (.int .i64 ((rd_T29 y456 a).f3)):=L 3 _ rfl;have bM:q.frozen? ⟨c,(a:Int).toNat*4,none⟩=false:=O 0;have bN:q.frozen? ⟨c,(a:Int).toNat*4+1,none⟩=false:=O 1;have bO:q.frozen? ⟨c,(a:Int).toNat*4+2,none⟩=false:=O 2;have bP:q.frozen? ⟨c,(a:Int).toNat*4+3,none⟩=false:=O 3;clear a2 L O aD;replace p9:=eq_true p9;replace q9:=eq_true q9;have aE:=zM (show Kd.R k29 29 q w0.heap.size (fun b=>(P0_ b∨w.heap.size≤b)) (.slice (some ⟨c,0,none⟩) d.length B) y456 from(sE g.out));obtain⟨bQ,aF,aG,af,aH⟩:=Kd.R_elem aE.out z29 (a:Int) (zzA) (by have l:(a:Int)<((d.length:Int):Int):=zzA;first|exact l|(have n:=(Kd.R_reads' g.out).1;omega)|simpa using l);obtain rfl:=k29_openM aG;have ag:=Kd.R_seg aE.out (a:Int) (zzA) (by have l:(a:Int)<((d.length:Int):Int):=zzA;first|exact l|(have n:=(Kd.R_reads' g.out).1;omega)|simpa using l) (seg:=[.int .i64 (wrap64 ((wrap64 ((wrap64 (i+1))+1))+1))]) (j:=3) aF af (show 4≤4 from by decide) (x':=(⟨(rd_T29 y456 a).f0,(rd_T29 y456 a).f1,(rd_T29 y456 a).f2,wrap64 ((wrap64 ((wrap64 (i+1))+1))+1)⟩:S29)) (k29_mkM _ _ _ (⟨(rd_T29 y456 a).f0,(rd_T29 y456 a).f1,(rd_T29 y456 a).f2,wrap64 ((wrap64 ((wrap64 (i+1))+1))+1)⟩:S29)) (fun _ hk=>hk);have a3:=af 3 _ rfl;(try simp only[show(k29).sz=4 from rfl,Nat.mul_one,Nat.add_zero]at a3);have a4:=aH 3;(try simp only[show(k29).sz=4 from rfl,Nat.mul_one,Nat.add_zero]at a4);clear aF af aH aG)|((with_reducible refine gate_store (t:=2) (p:=38) rfl ?_);refine store_event (t:=2) (p:=38) (v:=?vo_w19) (w1:=(q.setCell ⟨c,(a:Int).toNat*4+3,none⟩ (.int .i64 (wrap64 ((wrap64 ((wrap64 (i+1))+1))+1))))) ?hg ?ho ?hn ?hr ?_;(case ho=>rfl);(case hg=>rfl);(case hn=>rfl);(case hr=>first|(go_simp;done)|(go_simp;rfl));intro ah hw;have hg:q.grownBy ah (some c):=(by rw[hw];exact ag.2);have s:Kd.R k29 29 ah w0.heap.size (fun b=>(P0_ b∨w.heap.size≤b)) (.slice (some ⟨c,0,none⟩) d.length B) y457:=(by rw[hw,aM.out];exact ag.1);clear ag;have u:=zM (s);have x:=zM ((by rw[hw];exact below_set (HB.out) U.out:Below w0.heap.size w0 ah));have y:=zM (Kept.of_grown (S:=(fun b=>P0_ b)) hg (by repeat(first|(with_reducible first|exact HK.out|apply Kept.alloc|apply Kept.drewN|apply Kept.drew)|exact HK.out)) (fun b n=>(g.out.1 b n)));clear g;clear HB;clear HK;have g:=u;have HB:=x;have HK:=y;clear u x y;clear hg hw s))
 go_roundg k1
 case measure=>have:=ai.out;omega
 case rel=>exact⟨(y457),(wrap64 ((wrap64 ((wrap64 ((wrap64 (i+1))+1))+1))+1)),(wrap64 (a+1)),sr,sr,H',⟨by have:=ai.out;omega⟩,⟨by exact sE g.out⟩,⟨by repeat(first|(with_reducible first|exact HK.out|apply Kept.alloc|apply Kept.drewN|apply Kept.drew)|exact HK.out)⟩,⟨sb⟩⟩)
 rw[if_neg Q]at H
 exact absurd H (by simp))
 rw[if_neg D]at H
 have c3b0:=zF D
 clear D
 simp only[Option.some.injEq,Prod.mk.injEq]at H
 obtain⟨rfl,rfl⟩:=H
 obtain⟨bR,bS,a5⟩:=Kd.R_slice g.out
 subst a5
 go_wp2
 go_ret
 exact⟨sq,by exact sE g.out,sH HB.out,by repeat(first|(with_reducible first|exact HK.out|apply Kept.alloc|apply Kept.drewN|apply Kept.drew)|exact HK.out)⟩))
def laws_markObject.f (k:Nat) (a0_0:Int) (a0_1:Int) (a0_2:ByteArray) (a0_3:Int) (l0_4:List (S29)) (l0_5:List (S29)) (a0_6:Int) (a0_7:Int) (a0_8:ByteArray) (a0_9:Int) (a1:Int):Option (Int×(List (S29))×(List (S29))):=(laws_markValueS.f k l0_4 a1).bind fun bt459=>((laws_markValueS.f k l0_5 bt459.1).bind fun bt461=>(some (bt461.1,bt459.2,bt461.2)))
set_option maxHeartbeats 8000000 in
set_option maxRecDepth 100000 in
theorem laws_markObject.calls (k:Nat) (a0_0:Int) (a0_1:Int) (a0_2:ByteArray) (a0_3:Int) (P0_4_:Nat→Prop) (u9000_:Value) (l0_4:List (S29)) (P0_5_:Nat→Prop) (u9001_:Value) (l0_5:List (S29)) (a0_6:Int) (a0_7:Int) (a0_8:ByteArray) (a0_9:Int) (a1:Int) (r1:Int) (r2:List (S29)) (r3:List (S29)) (w0 w:World) (hB:Below w0.heap.size w0 w) (ho0_4:Kd.R k29 29 w w0.heap.size P0_4_ u9000_ l0_4) (hp0_4_0_5:∀a,P0_4_ a→¬P0_5_ a) (ho0_5:Kd.R k29 29 w w0.heap.size P0_5_ u9001_ l0_5) (hp0_5_0_4:∀a,P0_5_ a→¬P0_4_ a) (h:laws_markObject.f k a0_0 a0_1 a0_2 a0_3 l0_4 l0_5 a0_6 a0_7 a0_8 a0_9 a1=some (r1,r2,r3)):
  Calls Try.prog 31 #[.agg #[.int .i64 a0_0,.int .i64 a0_1,.string a0_2,.int .i64 a0_3,u9000_,u9001_,.int .i64 a0_6,.int .i64 a0_7,.string a0_8,.int .i64 a0_9],.int .i64 a1] w fun e w'=>e= .returned (.int .i64 r1)∧Kd.R k29 29 w' w0.heap.size (fun a=>((P0_4_ a∨P0_5_ a)∨w.heap.size≤a)) u9000_ r2∧Kd.R k29 29 w' w0.heap.size (fun a=>((P0_4_ a∨P0_5_ a)∨w.heap.size≤a)) u9001_ r3∧Below w0.heap.size w0 w'∧Kept w w' (fun a=>P0_4_ a∨P0_5_ a):=by
 have Y:=Try.underlying56
 have c:=zM (show Kd.R k29 29 w w0.heap.size (fun a=>((P0_4_ a∨P0_5_ a)∨w.heap.size≤a)∧some a≠(u9001_:Value).ownBlock) u9000_ l0_4 from Kd.R_mono ho0_4 (fun a hk=>⟨(.inl (.inl hk)),fun b=>hp0_4_0_5 a hk (ho0_5.1 a b.symm)⟩))
 have d:=zM (show Kd.R k29 29 w w0.heap.size (fun a=>((P0_4_ a∨P0_5_ a)∨w.heap.size≤a)∧some a≠(u9000_:Value).ownBlock) u9001_ l0_5 from Kd.R_mono ho0_5 (fun a hk=>⟨(.inl (.inr hk)),fun b=>hp0_5_0_4 a hk (ho0_4.1 a b.symm)⟩))
 have HK:=zM (Kept.refl w (fun a=>P0_4_ a∨P0_5_ a))
 have Z:=zM hB.size
 have HB:=zM hB
 clear hB
 have H:((laws_markValueS.f k l0_4 a1).bind fun B=>((laws_markValueS.f k l0_5 B.1).bind fun m=>(some (m.1,B.2,m.2))))=some (r1,r2,r3):=h
 clear h
 replace H:=Option.bind_eq_some_iff.mp H
 obtain⟨⟨x,y⟩,C,H⟩:=H
 replace H:((laws_markValueS.f k l0_5 x).bind fun m=>(some (m.1,y,m.2)))=some (r1,r2,r3):=H
 have U:=zM C
 clear C
 replace H:=Option.bind_eq_some_iff.mp H
 obtain⟨⟨D,E⟩,F,H⟩:=H
 replace H:(some (D,y,E))=some (r1,r2,r3):=H
 have V:=zM F
 clear F
 simp only[Option.some.injEq,Prod.mk.injEq]at H
 obtain⟨rfl,rfl,rfl⟩:=H
 obtain⟨n,o,W⟩:=Kd.R_slice c.out
 subst W
 obtain⟨q,s,X⟩:=Kd.R_slice d.out
 subst X
 go_enter Try.func31,Try.ntmps31
 go_wp2_with (first|((with_reducible refine gate_dst (N:=2) rfl ?_);refine sV (N:=2) (cs:= #[.int .i64 a0_0,.int .i64 a0_1,.string a0_2,.int .i64 a0_3,.slice n l0_4.length o,.slice q l0_5.length s,.int .i64 a0_6,.int .i64 a0_7,.string a0_8,.int .i64 a0_9]) (t:=56) ?_;intro G hg w7 hbox hb;have I:=zM (Kd.R_below (sE c.out) hb);have J:=zM (Kd.R_below (sE d.out) hb);have K:=zM (Kept.below (S:=(fun a=>P0_4_ a∨P0_5_ a)) (by repeat(first|(with_reducible first|exact HK.out|apply Kept.alloc|apply Kept.drewN|apply Kept.drew)|exact HK.out)) hb);have L:=sB HB hb;have O:=zM (hbox);have Q:=zM ((by rw[hg];exact(by first|exact HK.out.1|exact(show Kept w _ (fun a=>P0_4_ a∨P0_5_ a) from by repeat(first|(with_reducible first|exact HK.out|apply Kept.alloc|apply Kept.drewN|apply Kept.drew)|exact HK.out)).1):w.heap.size≤G));have T:=zM ((by rw[hg];exact(below_size (sH HB.out)):w0.heap.size≤G));clear c;clear d;clear HK;clear HB;have c:=I;have d:=J;have HK:=K;have HB:=L;have l:=O;have z:=Q;have A:=T;clear I J K L O Q T;clear hb hbox hg;obtain⟨aa,ab,ac,ad,ae,af,ag,ah,ai,aj,ak,al,am,an,ao,ap,aq,ar,au,av⟩:=cells10 l.out)|((with_reducible refine gate_callee (f:=23) rfl ?_);refine sC (some 8) Try.func23 #[.slice n l0_4.length o,.int .i64 a1] (laws_markValueS.calls k (fun a=>some a=(.slice n l0_4.length o:Value).ownBlock) (.slice n l0_4.length o) l0_4 a1 x y w0 _ ?side1 ?side2 U.out) ?_;(case side1=>repeat(first|(with_reducible first|exact HB.out|apply below_alloc|apply pw_below_drewN|apply below_drew1|refine below_set ?_ A.out)|exact HB.out));(case side2=>exact Kd.R_tight rfl c.out);rintro e w9 ⟨rfl,u,hb,hkp⟩;refine⟨_,rfl,?_⟩;replace d:=zM (Kd.R_mono (ok':=fun a=>((P0_4_ a∨P0_5_ a)∨w.heap.size≤a)∧some a≠(.slice n l0_4.length o:Value).ownBlock) (Kd.R_keptB (d.out) hkp (fun a i g=>(i.2) g)) (fun a i=>⟨i.1.1,i.1.2⟩));replace l:=zM (blk_kept (sT l.out) hkp (fun g=>(fun b=>(Kd.R_ne c.out l.out (by decide)) b) g));replace HK:=zM (Kept.then_ (S:=(fun a=>P0_4_ a∨P0_5_ a)) (by repeat(first|(with_reducible first|exact HK.out|apply Kept.alloc|apply Kept.drewN|apply Kept.drew|refine Kept.setCell ?_ (.inr z.out) _)|exact HK.out)) hkp (fun a g=>(fun b=>(c.out.1 a b.symm).1) g));replace c:=zM (Kd.R_reok rfl u (fun a b=>c.out.1 a b));replace HB:=zM (hb);(try clear hb);(try clear hkp);(try clear u);obtain⟨aw,ax,ay,az,aA,aB,aC,aD,aE,aF,aG,aH,aI,aJ,aK,aL,aM,aN,aO,aP⟩:=cells10 l.out)|((with_reducible refine gate_callee (f:=23) rfl ?_);refine sC (some 12) Try.func23 #[.slice q l0_5.length s,.int .i64 x] (laws_markValueS.calls k (fun a=>some a=(.slice q l0_5.length s:Value).ownBlock) (.slice q l0_5.length s) l0_5 x D E w0 _ ?side1 ?side2 V.out) ?_;(case side1=>repeat(first|(with_reducible first|exact HB.out|apply below_alloc|apply pw_below_drewN|apply below_drew1|refine below_set ?_ A.out)|exact HB.out));(case side2=>exact Kd.R_tight rfl d.out);rintro e aQ ⟨rfl,u,hb,hkp⟩;refine⟨_,rfl,?_⟩;replace c:=zM (Kd.R_mono (ok':=fun a=>((P0_4_ a∨P0_5_ a)∨w.heap.size≤a)∧some a≠(.slice q l0_5.length s:Value).ownBlock) (Kd.R_keptB (c.out) hkp (fun a i g=>(i.2) g)) (fun a i=>⟨i.1.1,i.1.2⟩));replace l:=zM (blk_kept (sT l.out) hkp (fun g=>(fun b=>(Kd.R_ne d.out l.out (by decide)) b) g));replace HK:=zM (Kept.then_ (S:=(fun a=>P0_4_ a∨P0_5_ a)) (by repeat(first|(with_reducible first|exact HK.out|apply Kept.alloc|apply Kept.drewN|apply Kept.drew|refine Kept.setCell ?_ (.inr z.out) _)|exact HK.out)) hkp (fun a g=>(fun b=>(d.out.1 a b.symm).1) g));replace d:=zM (Kd.R_reok rfl u (fun a b=>d.out.1 a b));replace HB:=zM (hb);(try clear hb);(try clear hkp);(try clear u)))
 go_ret
 exact⟨sq,by(with_reducible repeat(first|apply Kd.R_alloc|apply Kd.R_drewN|apply Kd.R_drew));exact Kd.R_mono c.out (fun _ hk=>hk.1),by(with_reducible repeat(first|apply Kd.R_alloc|apply Kd.R_drewN|apply Kd.R_drew));exact Kd.R_mono d.out (fun _ hk=>hk.1),by repeat(first|(with_reducible first|exact HB.out|apply below_alloc|apply pw_below_drewN|apply below_drew1|refine below_set ?_ A.out)|exact HB.out),by repeat(first|(with_reducible first|exact HK.out|apply Kept.alloc|apply Kept.drewN|apply Kept.drew|refine Kept.setCell ?_ (.inr z.out) _)|exact HK.out)⟩
end Go.Proofs.Ytengilknjiobiaa.PFnExactRefsOf
