/- Printed functions: laws_markText, laws_markLineS, laws_heldLineS. -/
import Derived.Test.YtjmojijopammjaaDoorYLlP0
namespace Go.Proofs.YtjmojijopammjaaDoor.PFnExactLogicalLines
open Go.RowKit Go.Proofs.YtjmojijopammjaaDoorG Go.Proofs.YtjmojijopammjaaDoorW.PrintWords Go.Proofs.YtjmojijopammjaaDoorW.PrintLast Go.Proofs.YtjmojijopammjaaDoorW.PrintMore
attribute [local go_sem] max2_int min2_int max_two min_two max_three min_three max_four min_four
set_option linter.unusedVariables false
set_option linter.unusedSimpArgs false
def laws_markText.l0 : Nat → Int → ByteArray → Option (ByteArray)
 |0,_,_=>none
 |k+1,x0,x3=>if x0>0 then((some (([(wrap64 (48+(Int.tmod x0 10)))%256]:List Int):List Int)).bind fun y240=>(if(strOfNums y240).size+x3.size≤9223372036854775807 then(laws_markText.l0 k (wrap64 (Int.tdiv x0 10)) ((strOfNums y240)++x3))else(none)))else(if 1+x3.size≤9223372036854775807 then(some ((⟨#[109]⟩:ByteArray)++x3))else(none))
def laws_markText.f (k:Nat) (a0:Int):Option (ByteArray):=if a0≤0 then(some (⟨#[109,48]⟩:ByteArray))else(laws_markText.l0 k a0 (⟨#[]⟩:ByteArray))
set_option maxHeartbeats 8000000 in
set_option maxRecDepth 100000 in
theorem laws_markText.calls (k:Nat) (a0:Int) (r:ByteArray) (w:World) (h:laws_markText.f k a0=some r):
  Calls Tryd.prog 73 #[.int .i64 a0] w fun e w'=>e= .returned (.string r)∧Below w.heap.size w w':=by
 have HB:=zM (Below.refl w.heap.size w)
 have H:(if a0≤0 then(some (⟨#[109,48]⟩:ByteArray))else(laws_markText.l0 k a0 (⟨#[]⟩:ByteArray)))=some r:=h
 clear h
 by_cases c:a0≤0
 ·(
 rw[if_pos c]at H
 have c2b0:=zT c
 clear c
 obtain rfl:=zI H
 go_enter Tryd.func73,Tryd.ntmps73
 go_wp2
 go_ret
 exact⟨sq,sb⟩)
 rw[if_neg c]at H
 have c2b0:=zF c
 clear c
 have H':=zM H
 clear H
 go_enter Tryd.func73,Tryd.ntmps73
 go_wp2
 go_loopg [0,3] k (fun kq u x w'=>∃(a:Int) (b:ByteArray),u= .int .i64 a∧x= .string b∧Aside0 (laws_markText.l0 kq a b=some r)∧Aside0 (kq≤k)∧Aside0 (Below w.heap.size w w'))
 case atStart=>exact⟨(a0),((⟨#[]⟩:ByteArray)),sr,sr,H',⟨Nat.le_refl _⟩,⟨sb⟩⟩
 case round=>(
 clear H'
 try clear c
 try clear c2b0
 obtain⟨a,b,rfl,rfl,HA,q,HB⟩:=hrel
 cases gk with
 |zero=>exact absurd HA.out (by simp[laws_markText.l0])
 |succ k1=>(
 have H:=HA.out
 clear HA
 simp only[laws_markText.l0]at H
 by_cases d:a>0
 ·(
 rw[if_pos d]at H
 have c3b0:decide (0<a)=true:=zT d
 clear d
 obtain⟨y240,hy240⟩:∃y:List Int,y=(([(wrap64 (48+(Int.tmod a 10)))%256]:List Int)):=⟨_,rfl⟩
 replace H:(if(strOfNums y240).size+b.size≤9223372036854775807 then(laws_markText.l0 k1 (wrap64 (Int.tdiv a 10)) ((strOfNums y240)++b))else(none))=some r:=by first|(rw[hy240];with_reducible exact H)|(have o:=(Option.bind_some _ _).symm.trans H;rw[hy240];with_reducible exact o)|(have o:=(Option.bind_some _ _).symm.trans H;with_reducible exact o)|with_reducible exact H|(rw[hy240];exact H)|exact H
 have s:=zM hy240
 clear hy240
 by_cases g:(strOfNums y240).size+b.size≤9223372036854775807
 ·(
 rw[if_pos g]at H
 have c4b0:=eq_true g
 have c4b1:=zT g
 try have c4b2:(9223372036854775807<(strOfNums y240).size+b.size)=False:=eq_false (Nat.not_lt.2 g)
 have H':=zM H
 clear H
 go_wp2_with (first|((with_reducible refine gate_dst (N:=12) rfl ?_);refine Kd.R_lit (Kd.int .u8) _ 5 ?hg (N:=12) ?hd (xs:=([(wrap64 (48+(Int.tmod a 10)))%256]:List Int)) (inner:=[.int .u8 ((wrap64 (48+(Int.tmod a 10)))%256)]) (ok:=fun _=>True) (okp:=fun _=>True) ?hr ?hp (fun _ hk=>hk) trivial (Below.refl _ _) (Nat.le_refl _) (by simp) ?_;(case hd=>rfl);(case hg=>rfl);(case hr=>first|(go_simp;done)|(go_simp;rfl));(case hp=>exact(Reps.one (show Kd.M (Kd.int .u8) _ _ _ ((wrap64 (48+(Int.tmod a 10)))%256) [.int .u8 ((wrap64 (48+(Int.tmod a 10)))%256)] from rfl) (Reps.none _ _)));intro D E l hb z A;clear z A;(first|rw[←s.out]at l|(simp only[Int.reduceToNat]at l;rw[←s.out]at l));have B:=zM (Kd.R_lower l (below_size (sH HB.out)));replace HB:=sB HB hb;clear hb l;have F:=own_string (P:=Tryd.prog) Tryd.underlying51 Tryd.underlying5 Tryd.underlying9 (Kd.own_of_R B.out)))
 go_roundg k1
 case measure=>have:=q.out;omega
 case rel=>exact⟨(wrap64 (Int.tdiv a 10)),((strOfNums y240)++b),sr,sr,H',⟨by have:=q.out;omega⟩,⟨sb⟩⟩)
 rw[if_neg g]at H
 exact absurd H (by simp))
 rw[if_neg d]at H
 have c3b0:decide (0<a)=false:=zF d
 clear d
 by_cases m:1+b.size≤9223372036854775807
 ·(
 rw[if_pos m]at H
 have c8b0:=eq_true m
 have c8b1:=zT m
 try have c8b2:(9223372036854775807<1+b.size)=False:=eq_false (Nat.not_lt.2 m)
 obtain rfl:=zI H
 go_wp2
 go_ret
 exact⟨sq,sb⟩)
 rw[if_neg m]at H
 exact absurd H (by simp)))
def laws_markLineS.l0 : Nat → List (S88) → Int → Int → Option (Int × (List (S88)))
 |0,_,_,_=>none
 |k+1,x0,x1,x5=>if x5<(x0.length:Int)then(if 0≤x5 then((some (x0.set (x5:Int).toNat (⟨x1,(rd_T88 x0 x5).f1⟩:S88):List (S88))).bind fun y243=>((laws_markText.f k (wrap64 (x1+1))).bind fun t244=>(laws_markLineS.l0 k (y243.set (x5:Int).toNat (⟨(rd_T88 y243 x5).f0,t244⟩:S88)) (wrap64 ((wrap64 (x1+1))+1)) (wrap64 (x5+1)))))else(none))else(some (x1,x0))
def laws_markLineS.f (k:Nat) (l0:List (S88)) (a1:Int):Option (Int×(List (S88))):=laws_markLineS.l0 k l0 a1 0
set_option maxHeartbeats 8000000 in
set_option maxRecDepth 100000 in
theorem laws_markLineS.calls (k:Nat) (P0_:Nat→Prop) (u9000_:Value) (l0:List (S88)) (a1:Int) (r1:Int) (r2:List (S88)) (w0 w:World) (hB:Below w0.heap.size w0 w) (ho0:Kd.R k88 88 w w0.heap.size P0_ u9000_ l0) (h:laws_markLineS.f k l0 a1=some (r1,r2)):
  Calls Tryd.prog 27 #[u9000_,.int .i64 a1] w fun e w'=>e= .returned (.int .i64 r1)∧Kd.R k88 88 w' w0.heap.size (fun b=>(P0_ b∨w.heap.size≤b)) u9000_ r2∧Below w0.heap.size w0 w'∧Kept w w' (fun b=>P0_ b):=by
 have ar:=zM (show Kd.R k88 88 w w0.heap.size (fun b=>(P0_ b∨w.heap.size≤b)) u9000_ l0 from Kd.R_mono ho0 (fun b hk=>(.inl hk)))
 have HK:=zM (Kept.refl w (fun b=>P0_ b))
 have aH:=zM hB.size
 have HB:=zM hB
 clear hB
 have H:(laws_markLineS.l0 k l0 a1 0)=some (r1,r2):=h
 clear h
 have H':=zM H
 clear H
 go_enter Tryd.func27,Tryd.ntmps27
 go_wp2
 go_loopg [1,5] k (fun kq v1 v5 w'=>∃(d:List (S88)) (l:Int) (a:Int),v1= .int .i64 l∧v5= .int .i64 a∧Aside0 (laws_markLineS.l0 kq d l a=some (r1,r2))∧Aside0 (kq≤k)∧Aside0 (Kd.R k88 88 w' w0.heap.size (fun b=>(P0_ b∨w.heap.size≤b)) u9000_ d)∧Aside0 (Kept w w' (fun b=>P0_ b))∧Aside0 (Below w0.heap.size w0 w'))
 case atStart=>exact⟨(l0),(a1),(0),sr,sr,H',⟨Nat.le_refl _⟩,⟨by exact sE ar.out⟩,⟨by repeat(first|(with_reducible first|exact HK.out|apply Kept.alloc|apply Kept.drewN|apply Kept.drew)|exact HK.out)⟩,⟨sb⟩⟩
 case round=>(
 clear H'
 obtain⟨d,l,a,rfl,rfl,HA,ac,c,HK,HB⟩:=hrel
 cases gk with
 |zero=>exact absurd HA.out (by simp[laws_markLineS.l0])
 |succ k1=>(
 have H:=HA.out
 clear HA
 simp only[laws_markLineS.l0]at H
 by_cases x:a<(d.length:Int)
 ·(
 rw[if_pos x]at H
 have c3b0:=zT x
 clear x
 by_cases D:0≤a
 ·(
 rw[if_pos D]at H
 have c4b0:=zT D
 clear D
 obtain⟨y243,hy243⟩:∃G:List (S88),G=(d.set (a:Int).toNat (⟨l,(rd_T88 d a).f1⟩:S88)):=⟨_,rfl⟩
 replace H:((laws_markText.f k1 (wrap64 (l+1))).bind fun o=>(laws_markLineS.l0 k1 (y243.set (a:Int).toNat (⟨(rd_T88 y243 a).f0,o⟩:S88)) (wrap64 ((wrap64 (l+1))+1)) (wrap64 (a+1))))=some (r1,r2):=by first|(rw[hy243];with_reducible exact H)|(have q:=(Option.bind_some _ _).symm.trans H;rw[hy243];with_reducible exact q)|(have q:=(Option.bind_some _ _).symm.trans H;with_reducible exact q)|with_reducible exact H|(rw[hy243];exact H)|exact H
 have au:=zM hy243
 clear hy243
 obtain⟨o,A6,H⟩:=sO H
 obtain⟨y245,hy245⟩:∃G:List (S88),G=(y243.set (a:Int).toNat (⟨(rd_T88 y243 a).f0,o⟩:S88)):=⟨_,rfl⟩
 replace H:(laws_markLineS.l0 k1 y245 (wrap64 ((wrap64 (l+1))+1)) (wrap64 (a+1)))=some (r1,r2):=by first|(rw[hy245];with_reducible exact H)|(have q:=(Option.bind_some _ _).symm.trans H;rw[hy245];with_reducible exact q)|(have q:=(Option.bind_some _ _).symm.trans H;with_reducible exact q)|with_reducible exact H|(rw[hy245];exact H)|exact H
 have av:=zM hy245
 clear hy245
 have H':=zM H
 clear H
 obtain⟨aI,E,aw⟩:=Kd.R_slice c.out
 subst aw
 have I:0≤(a:Int):=zzA
 have J:(a:Int)<((d.length:Int):Int):=zzA
 obtain⟨g,aJ,ad,ae,ax,aK,af⟩:=Kd.R_form c.out (by omega)
 (first|cases ad|(injection ad with F ay az;(first|subst F|(injection F with F;subst F));subst az;clear ay))
 have ag:=zM ae
 have aL:=zM af
 clear ae ax af
 have aM:=zM (show(P0_ g∨w.heap.size≤g) from(c.out.1 _ rfl))
 obtain⟨aN,aA,ah,L,O⟩:=Kd.R_elem c.out z88 (a:Int) I J
 obtain rfl:=k88_openM ah
 have aO:wr.cell? ⟨g,(a:Int).toNat*2,none⟩=some (.int .i64 ((rd_T88 d a).f0)):=L 0 _ rfl
 have aP:wr.cell? ⟨g,(a:Int).toNat*2+1,none⟩=some (.string ((rd_T88 d a).f1)):=L 1 _ rfl
 have aQ:wr.frozen? ⟨g,(a:Int).toNat*2,none⟩=false:=O 0
 have aR:wr.frozen? ⟨g,(a:Int).toNat*2+1,none⟩=false:=O 1
 clear aA L O ah
 replace I:=eq_true I
 replace J:=eq_true J
 have ai:=zM (show Kd.R k88 88 wr w0.heap.size (fun b=>(P0_ b∨w.heap.size≤b)) (.slice (some ⟨g,0,none⟩) d.length E) d from(sE c.out))
 obtain⟨aS,aj,ak,Q,al⟩:=Kd.R_elem ai.out z88 (a:Int) (zzA) (by have m:(a:Int)<((d.length:Int):Int):=zzA;first|exact m|(have s:=(Kd.R_reads' c.out).1;omega)|simpa using m)
 obtain rfl:=k88_openM ak
 have T:=Kd.R_seg ai.out (a:Int) (zzA) (by have m:(a:Int)<((d.length:Int):Int):=zzA;first|exact m|(have s:=(Kd.R_reads' c.out).1;omega)|simpa using m) (seg:=[.int .i64 l]) (j:=0) aj Q (show 1≤2 from by decide) (x':=(⟨l,(rd_T88 d a).f1⟩:S88)) (k88_mkM _ _ _ (⟨l,(rd_T88 d a).f1⟩:S88)) (fun _ hk=>hk)
 have aB:=Q 0 _ rfl
 (try simp only[show(k88).sz=2 from rfl,Nat.mul_one,Nat.add_zero]at aB)
 have aC:=al 0
 (try simp only[show(k88).sz=2 from rfl,Nat.mul_one,Nat.add_zero]at aC)
 clear aj Q al ak
 go_wp2_with (first|((with_reducible refine gate_store (t:=2) (p:=16) rfl ?_);refine store_event (t:=2) (p:=16) (v:=?vo_w10) (w1:=(wr.setCell ⟨g,(a:Int).toNat*2,none⟩ (.int .i64 l))) ?hg ?ho ?hn ?hr ?_;(case ho=>rfl);(case hg=>rfl);(case hn=>rfl);(case hr=>first|(go_simp;done)|(go_simp;rfl));intro U hw;have hg:wr.grownBy U (some g):=(by rw[hw];exact T.2);have y:Kd.R k88 88 U w0.heap.size (fun b=>(P0_ b∨w.heap.size≤b)) (.slice (some ⟨g,0,none⟩) d.length E) y243:=(by rw[hw,au.out];exact T.1);clear T;have z:=zM (y);have A:=zM ((by rw[hw];exact below_set (HB.out) ag.out:Below w0.heap.size w0 U));have B:=zM (Kept.of_grown (S:=(fun b=>P0_ b)) hg (by repeat(first|(with_reducible first|exact HK.out|apply Kept.alloc|apply Kept.drewN|apply Kept.drew)|exact HK.out)) (fun b s=>(c.out.1 b s)));clear c;clear HB;clear HK;have c:=z;have HB:=A;have HK:=B;clear z A B;clear hg hw y)|((with_reducible refine gate_callee (f:=73) rfl ?_);refine sC (some 22) Tryd.func73 #[.int .i64 (wrap64 (l+1))] (laws_markText.calls k1 (wrap64 (l+1)) o _ A6.out) ?_;rintro e u ⟨rfl,hb⟩;refine⟨_,rfl,?_⟩;replace c:=zM (Kd.R_below (sE c.out) hb);replace HK:=zM (Kept.below (S:=(fun b=>P0_ b)) (by repeat(first|(with_reducible first|exact HK.out|apply Kept.alloc|apply Kept.drewN|apply Kept.drew)|exact HK.out)) hb);replace HB:=sB HB hb;(try clear hb);have V:0≤(a:Int):=zzA;have W:(a:Int)<((d.length:Int):Int):=zzA;obtain⟨aT,aD,am,X,Y⟩:=Kd.R_elem c.out z88 (a:Int) V W;obtain rfl:=k88_openM am;have aU:u.cell? ⟨g,(a:Int).toNat*2,none⟩=some (.int .i64 ((rd_T88 y243 a).f0)):=X 0 _ rfl;have aV:u.cell? ⟨g,(a:Int).toNat*2+1,none⟩=some (.string ((rd_T88 y243 a).f1)):=X 1 _ rfl;have aW:u.frozen? ⟨g,(a:Int).toNat*2,none⟩=false:=Y 0;have aX:u.frozen? ⟨g,(a:Int).toNat*2+1,none⟩=false:=Y 1;clear aD X Y am;replace V:=eq_true V;replace W:=eq_true W;have an:=zM (show Kd.R k88 88 u w0.heap.size (fun b=>(P0_ b∨w.heap.size≤b)) (.slice (some ⟨g,0,none⟩) d.length E) y243 from(sE c.out));obtain⟨aY,ao,ap,Z,aq⟩:=Kd.R_elem an.out z88 (a:Int) (zzA) (by have m:(a:Int)<((d.length:Int):Int):=zzA;first|exact m|(have s:=(Kd.R_reads' c.out).1;omega)|simpa using m);obtain rfl:=k88_openM ap;have aa:=Kd.R_seg an.out (a:Int) (zzA) (by have m:(a:Int)<((d.length:Int):Int):=zzA;first|exact m|(have s:=(Kd.R_reads' c.out).1;omega)|simpa using m) (seg:=[.string o]) (j:=1) ao Z (show 2≤2 from by decide) (x':=(⟨(rd_T88 y243 a).f0,o⟩:S88)) (k88_mkM _ _ _ (⟨(rd_T88 y243 a).f0,o⟩:S88)) (fun _ hk=>hk);have aE:=Z 1 _ rfl;(try simp only[show(k88).sz=2 from rfl,Nat.mul_one,Nat.add_zero]at aE);have aF:=aq 1;(try simp only[show(k88).sz=2 from rfl,Nat.mul_one,Nat.add_zero]at aF);clear ao Z aq ap)|((with_reducible refine gate_store (t:=9) (p:=24) rfl ?_);refine store_event (t:=9) (p:=24) (v:=?vo_w13) (w1:=(u.setCell ⟨g,(a:Int).toNat*2+1,none⟩ (.string o))) ?hg ?ho ?hn ?hr ?_;(case ho=>rfl);(case hg=>rfl);(case hn=>rfl);(case hr=>first|(go_simp;done)|(go_simp;rfl));intro ab hw;have hg:u.grownBy ab (some g):=(by rw[hw];exact aa.2);have y:Kd.R k88 88 ab w0.heap.size (fun b=>(P0_ b∨w.heap.size≤b)) (.slice (some ⟨g,0,none⟩) d.length E) y245:=(by rw[hw,av.out];exact aa.1);clear aa;have z:=zM (y);have A:=zM ((by rw[hw];exact below_set (HB.out) ag.out:Below w0.heap.size w0 ab));have B:=zM (Kept.of_grown (S:=(fun b=>P0_ b)) hg (by repeat(first|(with_reducible first|exact HK.out|apply Kept.alloc|apply Kept.drewN|apply Kept.drew)|exact HK.out)) (fun b s=>(c.out.1 b s)));clear c;clear HB;clear HK;have c:=z;have HB:=A;have HK:=B;clear z A B;clear hg hw y))
 go_roundg k1
 case measure=>have:=ac.out;omega
 case rel=>exact⟨(y245),(wrap64 ((wrap64 (l+1))+1)),(wrap64 (a+1)),sr,sr,H',⟨by have:=ac.out;omega⟩,⟨by exact sE c.out⟩,⟨by repeat(first|(with_reducible first|exact HK.out|apply Kept.alloc|apply Kept.drewN|apply Kept.drew)|exact HK.out)⟩,⟨sb⟩⟩)
 rw[if_neg D]at H
 exact absurd H (by simp))
 rw[if_neg x]at H
 have c3b0:=zF x
 clear x
 simp only[Option.some.injEq,Prod.mk.injEq]at H
 obtain⟨rfl,rfl⟩:=H
 obtain⟨aZ,a2,aG⟩:=Kd.R_slice c.out
 subst aG
 go_wp2
 go_ret
 exact⟨sq,by exact sE c.out,sH HB.out,by repeat(first|(with_reducible first|exact HK.out|apply Kept.alloc|apply Kept.drewN|apply Kept.drew)|exact HK.out)⟩))
def laws_heldLineS.l0 : Nat → List (S88) → Int → Int → Option (Int)
 |0,_,_,_=>none
 |k+1,x0,x1,x5=>if x5<(x0.length:Int)then(if 0≤x5 then(if((rd_T88 x0 x5).f0)=x1 then((laws_markText.f k (wrap64 (x1+1))).bind fun t248=>(if((rd_T88 x0 x5).f1).toList=t248.toList then(laws_heldLineS.l0 k x0 (wrap64 ((wrap64 (x1+1))+1)) (wrap64 (x5+1)))else(some (-1))))else(some (-1)))else(none))else(some x1)
def laws_heldLineS.f (k:Nat) (l0:List (S88)) (a1:Int):Option (Int):=laws_heldLineS.l0 k l0 a1 0
def laws_heldLineS.T7:Bool×List (List Nat×List Nat):=(true,[([],[]),([],[]),([0,1],[0,1]),([2],[2]),([3],[3]),([],[]),([5],[5]),([4,6],[4,6])])
def laws_heldLineS.B7:List Nat:=[0,0,3,7,15,0,32,127]
theorem laws_heldLineS.tab7:rtab .any (opsOf Tryd.f28 7)=laws_heldLineS.T7:=by kernel_rfl
theorem laws_heldLineS.bits7:waitsOk laws_heldLineS.T7.2 laws_heldLineS.B7=true:=by kernel_rfl
set_option maxHeartbeats 8000000 in
set_option maxRecDepth 100000 in
theorem laws_heldLineS.calls (k:Nat) (A0:Option Addr) (c0:Nat) (l0:List (S88)) (a1:Int) (r:Int) (w:World) (hr0:Kd.C k88 w A0 l0.length l0) (hc0:l0.length≤c0) (h:laws_heldLineS.f k l0 a1=some r):
  Calls Tryd.prog 28 #[.slice A0 l0.length c0,.int .i64 a1] w fun e w'=>e= .returned (.int .i64 r)∧Below w.heap.size w w':=by
 have F:=zM hr0
 have X:=zM hc0
 clear hr0 hc0
 have HB:=zM (Below.refl w.heap.size w)
 have H:(laws_heldLineS.l0 k l0 a1 0)=some r:=h
 clear h
 have H':=zM H
 clear H
 go_enter Tryd.func28,Tryd.ntmps28
 go_wp2
 go_loopg [1,5] k (fun kq T U w'=>∃(c:Int) (a:Int),T= .int .i64 c∧U= .int .i64 a∧Aside0 (laws_heldLineS.l0 kq l0 c a=some r)∧Aside0 (kq≤k)∧Aside0 (Below w.heap.size w w'))
 case atStart=>exact⟨(a1),(0),sr,sr,H',⟨Nat.le_refl _⟩,⟨sb⟩⟩
 case round=>(
 clear H'
 obtain⟨c,a,rfl,rfl,HA,O,HB⟩:=hrel
 cases gk with
 |zero=>exact absurd HA.out (by simp[laws_heldLineS.l0])
 |succ k1=>(
 have H:=HA.out
 clear HA
 simp only[laws_heldLineS.l0]at H
 by_cases E:a<(l0.length:Int)
 ·(
 rw[if_pos E]at H
 have c3b0:=zT E
 clear E
 by_cases I:0≤a
 ·(
 rw[if_pos I]at H
 have c4b0:=zT I
 clear I
 by_cases y:((rd_T88 l0 a).f0)=c
 ·(
 rw[if_pos y]at H
 have c5b0:(((rd_T88 l0 a).f0)==c)=true:=zE y
 have c5b1:(((rd_T88 l0 a).f0) !=c)=false:=zY y
 clear y
 obtain⟨z,Q,H⟩:=sO H
 by_cases A:((rd_T88 l0 a).f1).toList=z.toList
 ·(
 rw[if_pos A]at H
 have c7b0:(((rd_T88 l0 a).f1).toList==z.toList)=true:=zE A
 have c7b1:(((rd_T88 l0 a).f1).toList !=z.toList)=false:=zY A
 clear A
 have H':=zM H
 clear H
 have d:0≤(a:Int):=zzA
 have g:a<(l0.length:Int):=zzA
 obtain⟨l,G,u,x⟩:=at_T88 F.out a d g
 cases G
 replace u:=sX HB u
 replace x:=sX HB x
 replace d:=eq_true d
 replace g:=eq_true g
 try go_wp2
 replace HB:=zM (below_drew1 HB.out)
 have B:0≤(a:Int):=zzA
 have D:a<(l0.length:Int):=zzA
 obtain⟨ad247,J,m,o⟩:=at_T88 F.out a B D
 have q:=o
 have s:=m
 obtain rfl:l=ad247:=(by injection J)
 replace m:=sX HB m
 replace o:=sX HB o
 replace B:=eq_true B
 replace D:=eq_true D
 refine start_ (n:=8) (S:=fun w'=>w'.cell? (l.add ((a).toNat*2))=some (.int .i64 ((rd_T88 l0 a).f0))∧w'.cell? ⟨(l.add ((a).toNat*2)).block,(l.add ((a).toNat*2)).off+1,none⟩=some (.string ((rd_T88 l0 a).f1))) (ds:=[]) #[false,false,false,false,false,false,false,false] (by kernel_rfl) rfl rfl ⟨((HB.out.cell (zL w _ s)).trans s),((HB.out.cell (zL w _ q)).trans q)⟩ (fun hHeld=>?_);refine with_tabW laws_heldLineS.tab7 laws_heldLineS.bits7 (fun b L=>?_)
 generalize wr.drew=w8 at HB m o hHeld ⊢
 refine pure_ (i:=0) (N:=some 21) (v:=?_) (a':=?_) (bN 8 1) rfl rfl (any_of b.out (by kernel_rfl)) (fun _ _ _ h=>h) (Or.inl ⟨by rfl,?_⟩) ?_ ?_
 rotate_left
 ·(
 intro w'
 go_simp
 with_reducible rfl)
 rotate_left
 ·(
 simp only[zP,i64_w,i32_w]
 rfl)
 refine pure_ (i:=1) (N:=some 22) (v:=?_) (a':=?_) (bN 8 3) rfl rfl (any_of b.out (by kernel_rfl)) (fun _ _ _ h=>h) (Or.inl ⟨by rfl,?_⟩) ?_ ?_
 rotate_left
 ·(
 intro w'
 go_simp
 with_reducible rfl)
 rotate_left
 ·(
 simp only[zP,i64_w,i32_w]
 rfl)
 refine pure_ (i:=2) (N:=some 23) (v:=?_) (a':=?_) (bN 8 7) rfl rfl (any_of b.out (by kernel_rfl)) (fun _ _ _ h=>h) (Or.inl ⟨by rfl,?_⟩) ?_ ?_
 rotate_left
 ·(
 intro w'
 go_simp
 with_reducible rfl)
 rotate_left
 ·(
 simp only[zP,i64_w,i32_w]
 rfl)
 refine pure_ (i:=3) (N:=some 24) (v:=?_) (a':=?_) (bN 8 15) rfl rfl (any_of b.out (by kernel_rfl)) (fun _ _ _ h=>h) (Or.inl ⟨by rfl,?_⟩) ?_ ?_
 rotate_left
 ·(
 intro w'
 go_simp
 with_reducible rfl)
 rotate_left
 ·(
 simp only[zP,i64_w,i32_w]
 rfl)
 refine pure_ (i:=5) (N:=some 26) (v:=?_) (a':=?_) (bN 8 47) rfl rfl (any_of b.out (by kernel_rfl)) (fun _ _ _ h=>h) (Or.inl ⟨by rfl,?_⟩) ?_ ?_
 rotate_left
 ·(
 intro w'
 go_simp
 with_reducible rfl)
 rotate_left
 ·(
 simp only[zP,i64_w,i32_w]
 rfl)
 refine take_ (i:=4) (N:=some 25) (v:=?_) (a':=?_) (bN 8 63) rfl rfl (take_ofW b.out L.out (by kernel_rfl)) (fun _ _ _ h=>h) (Or.inl ⟨by rfl,?_⟩) hHeld ?_ ?_
 rotate_left
 ·(
 rintro w' ⟨V,W⟩
 go_simp
 with_reducible rfl)
 rotate_left
 ·(
 simp only[zP,i64_w,i32_w]
 rfl)
 refine one_ (i:=6) (N:=some 27) (bN 8 127) rfl rfl (one_of b.out (by kernel_rfl)) (by decide) (fun K hK=>?_)
 refine goes_ Tryd.func73 (by kernel_rfl) rfl #[.int .i64 (wrap64 (c+1))] (by rfl) rfl rfl (by(try simp only[List.map_toArray,List.map_cons,List.map_nil]);first|done|rfl|(simp only[List.length_drop,List.length_take];rfl)) ?_
 with_reducible refine(laws_markText.calls k1 (wrap64 (c+1)) z _ Q.out).mono ?_
 rintro e Y ⟨rfl,hb⟩
 refine⟨_,rfl,?_⟩
 replace HB:=sB HB hb
 (try clear hb)
 (try clear hb2)
 (try clear hk)
 (try clear hi)
 refine hK.out _ _ ⟨((HB.out.cell (zL w _ s)).trans s),((HB.out.cell (zL w _ q)).trans q)⟩ (fun hHeld=>?_)
 clear hK K
 refine norm_ (a':=?_) ?_ ?_
 rotate_left
 ·(
 show Act.put _ (some 27) _=_
 simp only[zP,i64_w,i32_w]
 rfl)
 refine pure_ (i:=7) (N:=some 28) (v:=?_) (a':=?_) (bN 8 255) rfl rfl (any_of b.out (by kernel_rfl)) (fun _ _ _ h=>h) (Or.inl ⟨by rfl,?_⟩) ?_ ?_
 rotate_left
 ·(
 intro w'
 go_simp
 with_reducible rfl)
 rotate_left
 ·(
 simp only[zP,i64_w,i32_w]
 rfl)
 refine done_ (done_of b.out (by kernel_rfl)) ?_
 try go_wp2
 go_roundg k1
 case measure=>have:=O.out;omega
 case rel=>exact⟨(wrap64 ((wrap64 (c+1))+1)),(wrap64 (a+1)),sr,sr,H',⟨by have:=O.out;omega⟩,⟨sb⟩⟩)
 rw[if_neg A]at H
 have c7b0:(((rd_T88 l0 a).f1).toList==z.toList)=false:=zN A
 have c7b1:(((rd_T88 l0 a).f1).toList !=z.toList)=true:=zX A
 obtain rfl:=zI H
 have d:0≤(a:Int):=zzA
 have g:a<(l0.length:Int):=zzA
 obtain⟨l,G,u,x⟩:=at_T88 F.out a d g
 cases G
 replace u:=sX HB u
 replace x:=sX HB x
 replace d:=eq_true d
 replace g:=eq_true g
 try go_wp2
 replace HB:=zM (below_drew1 HB.out)
 have B:0≤(a:Int):=zzA
 have D:a<(l0.length:Int):=zzA
 obtain⟨ad247,J,m,o⟩:=at_T88 F.out a B D
 have q:=o
 have s:=m
 obtain rfl:l=ad247:=(by injection J)
 replace m:=sX HB m
 replace o:=sX HB o
 replace B:=eq_true B
 replace D:=eq_true D
 refine start_ (n:=8) (S:=fun w'=>w'.cell? (l.add ((a).toNat*2))=some (.int .i64 ((rd_T88 l0 a).f0))∧w'.cell? ⟨(l.add ((a).toNat*2)).block,(l.add ((a).toNat*2)).off+1,none⟩=some (.string ((rd_T88 l0 a).f1))) (ds:=[]) #[false,false,false,false,false,false,false,false] (by kernel_rfl) rfl rfl ⟨((HB.out.cell (zL w _ s)).trans s),((HB.out.cell (zL w _ q)).trans q)⟩ (fun hHeld=>?_);refine with_tabW laws_heldLineS.tab7 laws_heldLineS.bits7 (fun b L=>?_)
 generalize wr.drew=w10 at HB m o hHeld ⊢
 refine pure_ (i:=0) (N:=some 21) (v:=?_) (a':=?_) (bN 8 1) rfl rfl (any_of b.out (by kernel_rfl)) (fun _ _ _ h=>h) (Or.inl ⟨by rfl,?_⟩) ?_ ?_
 rotate_left
 ·(
 intro w'
 go_simp
 with_reducible rfl)
 rotate_left
 ·(
 simp only[zP,i64_w,i32_w]
 rfl)
 refine pure_ (i:=1) (N:=some 22) (v:=?_) (a':=?_) (bN 8 3) rfl rfl (any_of b.out (by kernel_rfl)) (fun _ _ _ h=>h) (Or.inl ⟨by rfl,?_⟩) ?_ ?_
 rotate_left
 ·(
 intro w'
 go_simp
 with_reducible rfl)
 rotate_left
 ·(
 simp only[zP,i64_w,i32_w]
 rfl)
 refine pure_ (i:=2) (N:=some 23) (v:=?_) (a':=?_) (bN 8 7) rfl rfl (any_of b.out (by kernel_rfl)) (fun _ _ _ h=>h) (Or.inl ⟨by rfl,?_⟩) ?_ ?_
 rotate_left
 ·(
 intro w'
 go_simp
 with_reducible rfl)
 rotate_left
 ·(
 simp only[zP,i64_w,i32_w]
 rfl)
 refine pure_ (i:=3) (N:=some 24) (v:=?_) (a':=?_) (bN 8 15) rfl rfl (any_of b.out (by kernel_rfl)) (fun _ _ _ h=>h) (Or.inl ⟨by rfl,?_⟩) ?_ ?_
 rotate_left
 ·(
 intro w'
 go_simp
 with_reducible rfl)
 rotate_left
 ·(
 simp only[zP,i64_w,i32_w]
 rfl)
 refine pure_ (i:=5) (N:=some 26) (v:=?_) (a':=?_) (bN 8 47) rfl rfl (any_of b.out (by kernel_rfl)) (fun _ _ _ h=>h) (Or.inl ⟨by rfl,?_⟩) ?_ ?_
 rotate_left
 ·(
 intro w'
 go_simp
 with_reducible rfl)
 rotate_left
 ·(
 simp only[zP,i64_w,i32_w]
 rfl)
 refine take_ (i:=4) (N:=some 25) (v:=?_) (a':=?_) (bN 8 63) rfl rfl (take_ofW b.out L.out (by kernel_rfl)) (fun _ _ _ h=>h) (Or.inl ⟨by rfl,?_⟩) hHeld ?_ ?_
 rotate_left
 ·(
 rintro w' ⟨V,W⟩
 go_simp
 with_reducible rfl)
 rotate_left
 ·(
 simp only[zP,i64_w,i32_w]
 rfl)
 refine one_ (i:=6) (N:=some 27) (bN 8 127) rfl rfl (one_of b.out (by kernel_rfl)) (by decide) (fun K hK=>?_)
 refine goes_ Tryd.func73 (by kernel_rfl) rfl #[.int .i64 (wrap64 (c+1))] (by rfl) rfl rfl (by(try simp only[List.map_toArray,List.map_cons,List.map_nil]);first|done|rfl|(simp only[List.length_drop,List.length_take];rfl)) ?_
 with_reducible refine(laws_markText.calls k1 (wrap64 (c+1)) z _ Q.out).mono ?_
 rintro e Z ⟨rfl,hb⟩
 refine⟨_,rfl,?_⟩
 replace HB:=sB HB hb
 (try clear hb)
 (try clear hb2)
 (try clear hk)
 (try clear hi)
 refine hK.out _ _ ⟨((HB.out.cell (zL w _ s)).trans s),((HB.out.cell (zL w _ q)).trans q)⟩ (fun hHeld=>?_)
 clear hK K
 refine norm_ (a':=?_) ?_ ?_
 rotate_left
 ·(
 show Act.put _ (some 27) _=_
 simp only[zP,i64_w,i32_w]
 rfl)
 refine pure_ (i:=7) (N:=some 28) (v:=?_) (a':=?_) (bN 8 255) rfl rfl (any_of b.out (by kernel_rfl)) (fun _ _ _ h=>h) (Or.inl ⟨by rfl,?_⟩) ?_ ?_
 rotate_left
 ·(
 intro w'
 go_simp
 with_reducible rfl)
 rotate_left
 ·(
 simp only[zP,i64_w,i32_w]
 rfl)
 refine done_ (done_of b.out (by kernel_rfl)) ?_
 try go_wp2
 go_ret
 exact⟨sq,sb⟩)
 rw[if_neg y]at H
 have c5b0:(((rd_T88 l0 a).f0)==c)=false:=zN y
 have c5b1:(((rd_T88 l0 a).f0) !=c)=true:=zX y
 obtain rfl:=zI H
 have d:0≤(a:Int):=zzA
 have g:a<(l0.length:Int):=zzA
 obtain⟨l,G,u,x⟩:=at_T88 F.out a d g
 cases G
 replace u:=sX HB u
 replace x:=sX HB x
 replace d:=eq_true d
 replace g:=eq_true g
 go_wp2
 go_ret
 exact⟨sq,sb⟩)
 rw[if_neg I]at H
 exact absurd H (by simp))
 rw[if_neg E]at H
 have c3b0:=zF E
 clear E
 obtain rfl:=zI H
 go_wp2
 go_ret
 exact⟨sq,sb⟩))
end Go.Proofs.YtjmojijopammjaaDoor.PFnExactLogicalLines
