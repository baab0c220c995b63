/- Printed functions: impl_PatternCode_checked. -/
import Derived.Test.YtcppdkdnpmgpmaaYEoP0
import Derived.Test.YtcppdkdnpmgpmaaYEoP14
import Derived.Test.YtcppdkdnpmgpmaaYEoP16
import Derived.Test.YtcppdkdnpmgpmaaYEoP17
import Derived.Test.YtcppdkdnpmgpmaaYEoP18
import Derived.Test.YtcppdkdnpmgpmaaYEoP21
namespace Go.Proofs.Ytcppdkdnpmgpmaa.PFnExactEntryOf
open Go.RowKit Go.Proofs.YtcppdkdnpmgpmaaG Go.Proofs.YtcppdkdnpmgpmaaW.PrintWords Go.Proofs.YtcppdkdnpmgpmaaW.PrintLast Go.Proofs.YtcppdkdnpmgpmaaW.PrintMore
attribute [local go_sem] max2_int min2_int max_two min_two max_three min_three max_four min_four
set_option linter.unusedVariables false
set_option linter.unusedSimpArgs false
mutual
def impl_PatternCode_checked.j0 : Nat → Bool → List (S55) → List (S51) → Option (List Int × Bool)
 |0,_,_,_=>none
 |k+1,x28,x361000,x361001=>if x28=true then(some (([]:List Int),false))else((impl_PatternCode_regions.f k x361000 x361001).bind fun t363=>(if 1≤(t363.length:Int)then((some (t363.drop 1:List Int)).bind fun y366=>(impl_PatternCode_checked.l0 k t363 y366 (y366.length:Int) 0 x361000 x361001))else(none)))
def impl_PatternCode_checked.l0 : Nat → List Int → List Int → Int → Int → List (S55) → List (S51) → Option (List Int × Bool)
 |0,_,_,_,_,_,_=>none
 |k+1,x4,x32,x33,x34,x361000,x361001=>if x34<x33 then(if 0≤x34 then(if x34<(x32.length:Int)then(if x34=0 then(if x34<(x4.length:Int)then((impl_PatternCode_isGoodRegion.f k x361000 x361001 (rd x4 x34) (rd x32 x34) 39).bind fun t376=>(if t376=true then(impl_PatternCode_checked.l0 k x4 x32 x33 (wrap64 (x34+1)) x361000 x361001)else(some (([]:List Int),false))))else(none))else(if x34<(x4.length:Int)then((impl_PatternCode_isGoodRegion.f k x361000 x361001 (rd x4 x34) (rd x32 x34) 38).bind fun t378=>(if t378=true then(impl_PatternCode_checked.l0 k x4 x32 x33 (wrap64 (x34+1)) x361000 x361001)else(some (([]:List Int),false))))else(none)))else(none))else(none))else((impl_PatternCode_marks.f k x361000 x361001).bind fun bt370=>(some (bt370.1,bt370.2)))
end
def impl_PatternCode_checked.f (k:Nat) (l0_0:List (S55)) (l0_1:List (S51)):Option (List Int×Bool):=if(l0_0.length:Int)<1 then(impl_PatternCode_checked.j0 k true l0_0 l0_1)else(if(l0_0.length:Int)>13000 then(impl_PatternCode_checked.j0 k true l0_0 l0_1)else((impl_PatternIns__impl_ValidIns.f k l0_0).bind fun t361=>(if t361=true then((impl_PatternCode_hasGoodEntries.f k l0_0 l0_1).bind fun t362=>(impl_PatternCode_checked.j0 k (!t362) l0_0 l0_1))else(impl_PatternCode_checked.j0 k true l0_0 l0_1))))
def impl_PatternCode_checked.T10:Bool×List (List Nat×List Nat):=(true,[([],[]),([],[]),([],[]),([1,2],[1,2]),([3],[3]),([],[]),([],[]),([0,4,5,6],[0,4,5,6]),([7],[7])])
def impl_PatternCode_checked.B10:List Nat:=[0,0,0,6,14,0,0,127,255]
theorem impl_PatternCode_checked.tab10:rtab .any (opsOf Try.f25 10)=impl_PatternCode_checked.T10:=by kernel_rfl
theorem impl_PatternCode_checked.bits10:waitsOk impl_PatternCode_checked.T10.2 impl_PatternCode_checked.B10=true:=by kernel_rfl
set_option maxHeartbeats 8000000 in
set_option maxRecDepth 100000 in
theorem impl_PatternCode_checked.calls (k:Nat) (A0_0:Option Addr) (c0_0:Nat) (l0_0:List (S55)) (A0_1:Option Addr) (c0_1:Nat) (l0_1:List (S51)) (r1:List Int) (r2:Bool) (w:World) (hr0_0:Kd.C k55 w A0_0 l0_0.length l0_0) (hc0_0:l0_0.length≤c0_0) (hr0_1:Kd.C k51 w A0_1 l0_1.length l0_1) (hc0_1:l0_1.length≤c0_1) (h:impl_PatternCode_checked.f k l0_0 l0_1=some (r1,r2)):
  Calls Try.prog 25 #[.agg #[.slice A0_0 l0_0.length c0_0,.slice A0_1 l0_1.length c0_1]] w fun e w'=>∃ay:Value,e= .returned (.tuple #[ay,.bool r2])∧Kd.R (Kd.int .i64) 2 w' w.heap.size (fun _=>True) ay r1∧Below w.heap.size w w':=by
 have aX:=Try.underlying32
 have r:=zM hr0_0
 have s:=zM hc0_0
 clear hr0_0 hc0_0
 have u:=zM hr0_1
 have x:=zM hc0_1
 clear hr0_1 hc0_1
 have HB:=zM (Below.refl w.heap.size w)
 have H:(if(l0_0.length:Int)<1 then(impl_PatternCode_checked.j0 k true l0_0 l0_1)else(if(l0_0.length:Int)>13000 then(impl_PatternCode_checked.j0 k true l0_0 l0_1)else((impl_PatternIns__impl_ValidIns.f k l0_0).bind fun am=>(if am=true then((impl_PatternCode_hasGoodEntries.f k l0_0 l0_1).bind fun aa=>(impl_PatternCode_checked.j0 k (!aa) l0_0 l0_1))else(impl_PatternCode_checked.j0 k true l0_0 l0_1)))))=some (r1,r2):=h
 clear h
 have an:=zM H
 clear H
 go_enter Try.func25,Try.ntmps25
 go_upto_region 1 with(first|((with_reducible refine gate_dst (N:=1) rfl ?_);(try(refine gate_guard (by rfl) ?_;dsimp only));refine sV (N:=1) (cs:= #[.slice A0_0 l0_0.length c0_0,.slice A0_1 l0_1.length c0_1]) (t:=32) ?_;intro q hg w3 hbox hb;have b:=zM (hbox);have aY:=sG HB hg;have az:=sG HB hg;replace HB:=sB HB hb;clear hb hbox hg))
 (try simp only[zP])
 go_cut [28] (fun aJ wc=>∃(kq:Nat) (ab:Bool),aJ= .bool ab∧Aside0 (impl_PatternCode_checked.j0 kq ab l0_0 l0_1=some (r1,r2))∧Aside0 (kq≤k)∧Aside0 (wc.heap[q]?=some (.cells #[(.slice A0_0 l0_0.length c0_0),(.slice A0_1 l0_1.length c0_1)] 32 (0,0)))∧Aside0 (Below w.heap.size w wc))
 case first=>(
 have H:=an.out
 clear an
 by_cases L:(l0_0.length:Int)<1
 ·(
 rw[if_pos L]at H
 have c4b0:=zT L
 have c4b1:decide (l0_0.length<1)=true:=zT (by omega)
 clear L
 (first|rw[c4b0]|(simp only[i64_w,i32_w];rw[c4b0])|rw[c4b2]|skip)
 have H':=zM H
 clear H
 obtain⟨aZ,a0,a1,a2⟩:=cells2 b.out
 go_wp2
 go_meet
 case rel=>exact⟨_,(true),sr,H',⟨by first|omega|exact Nat.le_refl _⟩,⟨by exact sT b.out⟩,⟨sb⟩⟩)
 rw[if_neg L]at H
 have c4b0:=zF L
 have c4b1:decide (l0_0.length<1)=false:=zF (by omega)
 clear L
 (first|rw[c4b0]|(simp only[i64_w,i32_w];rw[c4b0])|rw[c4b2]|skip)
 by_cases M:(l0_0.length:Int)>13000
 ·(
 rw[if_pos M]at H
 have c6b0:decide (13000<(l0_0.length:Int))=true:=zT M
 have c6b1:decide (13000<l0_0.length)=true:=zT (by omega)
 clear M
 have H':=zM H
 clear H
 obtain⟨a3,a4,a5,a6⟩:=cells2 b.out
 go_wp2
 go_meet
 case rel=>exact⟨_,(true),sr,H',⟨by first|omega|exact Nat.le_refl _⟩,⟨by exact sT b.out⟩,⟨sb⟩⟩)
 rw[if_neg M]at H
 have c6b0:decide (13000<(l0_0.length:Int))=false:=zF M
 have c6b1:decide (13000<l0_0.length)=false:=zF (by omega)
 clear M
 obtain⟨am,A8,H⟩:=sO H
 by_cases c9:am=true
 ·(
 subst c9
 rewrite[if_pos rfl]at H
 obtain⟨aa,aK,H⟩:=sO H
 have H':=zM H
 clear H
 obtain⟨a7,a8,a9,ba⟩:=cells2 b.out
 go_wp2_with (first|(go_at_call 33;(with_reducible refine(impl_PatternIns__impl_ValidIns.calls k _ _ l0_0 true _ ?side1 ?side2 A8.out).mono ?_);(case side1=>exact sD (zC r.out HB.out));(case side2=>exact s.out);rintro e bb ⟨rfl,hb⟩;replace b:=sK b hb;replace HB:=sB HB hb;(try clear hb);obtain⟨bc,bd,be,bf⟩:=cells2 b.out)|(go_at_call 35;(with_reducible refine(impl_PatternCode_hasGoodEntries.calls k _ _ l0_0 _ _ l0_1 aa _ ?side1 ?side2 ?side3 ?side4 aK.out).mono ?_);(case side1=>exact sD (zC r.out HB.out));(case side2=>exact s.out);(case side3=>exact sD (zC u.out HB.out));(case side4=>exact x.out);rintro e bg ⟨rfl,hb⟩;replace b:=sK b hb;replace HB:=sB HB hb;(try clear hb)))
 go_meet
 case rel=>exact⟨_,(!aa),sr,H',⟨by first|omega|exact Nat.le_refl _⟩,⟨by exact sT b.out⟩,⟨sb⟩⟩)
 replace c9:=zB c9
 subst c9
 rewrite[if_neg zQ]at H
 have H':=zM H
 clear H
 obtain⟨bh,bi,bj,bk⟩:=cells2 b.out
 go_wp2_with (first|(go_at_call 33;(with_reducible refine(impl_PatternIns__impl_ValidIns.calls k _ _ l0_0 false _ ?side1 ?side2 A8.out).mono ?_);(case side1=>exact sD (zC r.out HB.out));(case side2=>exact s.out);rintro e bl ⟨rfl,hb⟩;replace b:=sK b hb;replace HB:=sB HB hb;(try clear hb)))
 go_meet
 case rel=>exact⟨_,(true),sr,H',⟨by first|omega|exact Nat.le_refl _⟩,⟨by exact sT b.out⟩,⟨sb⟩⟩)
 case rest=>(
 clear an
 obtain⟨kq,ab,rfl,HA,ac,b,HB⟩:=hcut
 cases kq with
 |zero=>exact absurd HA.out (by simp[impl_PatternCode_checked.j0])
 |succ kj1=>(
 have H:=HA.out
 clear HA
 simp only[impl_PatternCode_checked.j0]at H
 by_cases U:ab=true
 ·(
 subst U
 rewrite[if_pos rfl]at H
 simp only[Option.some.injEq,Prod.mk.injEq]at H
 obtain⟨rfl,rfl⟩:=H
 go_wp2
 go_ret2
 exact⟨_,sq,by first|exact Kd.R_nil _ _ _ _ _|exact Kd.N_nil _ _ _ _ _|exact Kd.V_nil _ _ _ _ _|exact Kd.Q_nil _ _ _ _ _|exact Kd.S_nil _ _ _ _ _,sb⟩)
 replace U:=zB U
 subst U
 rewrite[if_neg zQ]at H
 obtain⟨t363,aL,H⟩:=sO H
 by_cases O:1≤(t363.length:Int)
 ·(
 rw[if_pos O]at H
 have c19b0:=eq_true O
 have c19b1:=zT O
 clear O
 obtain⟨y366,hy366⟩:∃y_:List Int,y_=(t363.drop 1):=⟨_,rfl⟩
 replace H:(impl_PatternCode_checked.l0 kj1 t363 y366 (y366.length:Int) 0 l0_0 l0_1)=some (r1,r2):=by first|(rw[hy366];with_reducible exact H)|(have ao:=(Option.bind_some _ _).symm.trans H;rw[hy366];with_reducible exact ao)|(have ao:=(Option.bind_some _ _).symm.trans H;with_reducible exact ao)|with_reducible exact H|(rw[hy366];exact H)|exact H
 have aA:=zM hy366
 clear hy366
 have H':=zM H
 clear H
 obtain⟨aM,aN,aO,aP⟩:=cells2 b.out
 go_wp2_with (first|((with_reducible refine gate_callee (f:=36) rfl ?_);refine sC (some 30) Try.func36 #[.agg #[.slice A0_0 l0_0.length c0_0,.slice A0_1 l0_1.length c0_1]] (impl_PatternCode_regions.calls kj1 _ _ l0_0 _ _ l0_1 t363 _ ?side1 ?side2 ?side3 ?side4 aL.out) ?_;(case side1=>exact sD (zC r.out HB.out));(case side2=>exact s.out);(case side3=>exact sD (zC u.out HB.out));(case side4=>exact x.out);rintro e bm ⟨bn,rfl,Q,hb⟩;refine⟨_,rfl,?_⟩;have ad:=zM (Kd.R_lower Q (below_size zzR));replace b:=sK b hb;replace HB:=sB HB hb;(try clear hb);(try clear Q);obtain⟨V,co23,aQ⟩:=Kd.R_slice ad.out;subst aQ;have W:(1:Int)≤((t363.length:Int):Int):=zzA;obtain⟨bo,aB,_,aC,_⟩:=info_parts info2;have ap:t363.length≤co23:=(Kd.R_reads' ad.out).2.1;have aD:Kd.C (Kd.int .i64) _ V t363.length t363:=(Kd.R_reads' ad.out).2.2;have aR:=cut_from (P:=Try.prog) 52 2 .i64 Try.underlying52 aB 1 aC V t363.length co23 1 (by omega) W;have X:=Kd.C_drop (m:=(1:Int).toNat) (c:=co23) aD (by omega) ap;obtain⟨A22,hA22⟩:∃A1,A1=(if co23=(1:Int).toNat then V else(V:Option Addr).map (·.add ((1:Int).toNat*1))):=⟨_,rfl⟩;obtain⟨c22,hc22⟩:∃c1,c1=co23-(1:Int).toNat:=⟨_,rfl⟩;have ae:y366.length=t363.length-(1:Int).toNat:=(by rw[aA.out,List.length_drop]<;>omega);rw[show(t363).drop (1:Int).toNat=y366 from aA.out.symm]at X;replace X:Kd.C (Kd.int .i64) _ A22 y366.length y366:=(by rw[hA22];exact X);rw[←ae, ←hA22, ←hc22]at aR;have g:=zM X;have bp:=zM (show y366.length≤c22 from by rw[ae,hc22];exact Nat.sub_le_sub_right ap _);clear X aD ap aB aC hc22;have bq:=zM ae;have br:=zM hA22;clear ae hA22;have bs:=zM (show 1≤t363.length from by omega);replace W:=eq_true W))
 go_loopg [34] kj1 (fun kq aS w'=>∃(a:Int),aS= .int .i64 a∧Aside0 (impl_PatternCode_checked.l0 kq t363 y366 (y366.length:Int) a l0_0 l0_1=some (r1,r2))∧Aside0 (kq≤kj1)∧Aside0 (Kd.R (Kd.int .i64) 2 w' w.heap.size (fun _=>True) (.slice V t363.length co23) t363)∧Aside0 (w'.heap[q]?=some (.cells #[(.slice A0_0 l0_0.length c0_0),(.slice A0_1 l0_1.length c0_1)] 32 (0,0)))∧Aside0 (Kd.C (Kd.int .i64) w' A22 y366.length y366)∧Aside0 (Below w.heap.size w w'))
 case atStart=>exact⟨(0),sr,H',⟨Nat.le_refl _⟩,⟨by exact sE ad.out⟩,⟨by exact sT b.out⟩,⟨by repeat(first|(with_reducible exact g.out)|(with_reducible refine Kd.C_alloc ?_ _)|(with_reducible refine Kd.C_drewN ?_ _)|(with_reducible refine Kd.C_drew ?_)|exact g.out)⟩,⟨sb⟩⟩
 case round=>(
 clear H'
 try clear c1
 try clear U
 try clear O
 try clear c19b0
 try clear c19b1
 try clear c22
 try clear W
 try clear aM
 try clear aN
 try clear aO
 try clear aP
 try clear W
 obtain⟨a,rfl,HA,af,j,b,g,HB⟩:=hrel
 cases gk with
 |zero=>exact absurd HA.out (by simp[impl_PatternCode_checked.l0])
 |succ k2=>(
 have H:=HA.out
 clear HA
 simp only[impl_PatternCode_checked.l0]at H
 by_cases T:a<(y366.length:Int)
 ·(
 rw[if_pos T]at H
 have c24b0:=zT T
 clear T
 by_cases ag:0≤a
 ·(
 rw[if_pos ag]at H
 have c25b0:=zT ag
 clear ag
 by_cases ah:a<(y366.length:Int)
 ·(
 rw[if_pos ah]at H
 have c26b0:=zT ah
 clear ah
 by_cases y:a=0
 ·(
 rw[if_pos y]at H
 have c27b0:(a==0)=true:=zE y
 have c27b1:(a !=0)=false:=zY y
 clear y
 by_cases ai:a<(t363.length:Int)
 ·(
 rw[if_pos ai]at H
 have c28b0:=zT ai
 clear ai
 obtain⟨aT,aE,H⟩:=sO H
 by_cases aj:aT=true
 ·(
 subst aj
 rewrite[if_pos rfl]at H
 have H':=zM H
 clear H
 have l:0≤(a:Int):=zzA
 have o:a<(y366.length:Int):=zzA
 obtain⟨aq,z,ar⟩:=Kd.at_int g.out a l o
 cases z
 replace l:=eq_true l
 replace o:=eq_true o
 try go_wp2
 replace j:=zM (Kd.R_drew j.out)
 replace b:=zM (blk_drew b.out)
 replace g:=zM (Kd.C_drew g.out)
 replace HB:=zM (below_drew1 HB.out)
 have A:0≤(a:Int):=zzA
 have B:a<(t363.length:Int):=zzA
 obtain⟨au,av,Y⟩:=Kd.at_int (Kd.R_reads' j.out).2.2 a A B
 cases av
 replace A:=eq_true A
 replace B:=eq_true B
 refine start_ (n:=9) (S:=fun w'=>w'.cell? ⟨q,0,none⟩=some (.slice A0_0 l0_0.length c0_0)∧w'.cell? ⟨q,1,none⟩=some (.slice A0_1 l0_1.length c0_1)∧w'.cell? (au.add (a).toNat)=some (.int .i64 (rd t363 a))) (ds:=[]) #[false,false,false,false,false,false,false,false,false] (by kernel_rfl) rfl rfl ⟨(blk_cell b.out 0).trans rfl,(blk_cell b.out 1).trans rfl,Y⟩ (fun hHeld=>?_);refine with_tabW impl_PatternCode_checked.tab10 impl_PatternCode_checked.bits10 (fun d p=>?_)
 generalize wr.drew=w31 at j b g HB Y hHeld ⊢
 refine pure_ (i:=1) (N:=some 42) (v:=?_) (a':=?_) (bN 9 2) rfl rfl (any_of d.out (by kernel_rfl)) (fun _ _ _ h=>h) (Or.inl ⟨by rfl,?_⟩) ?_ ?_
 rotate_left
 ·(
 intro w'
 go_simp
 with_reducible rfl)
 rotate_left
 ·(
 simp only[zP,i64_w,i32_w]
 rfl)
 refine pure_ (i:=2) (N:=some 43) (v:=?_) (a':=?_) (bN 9 6) rfl rfl (any_of d.out (by kernel_rfl)) (fun _ _ _ h=>h) (Or.inl ⟨by rfl,?_⟩) ?_ ?_
 rotate_left
 ·(
 intro w'
 go_simp
 with_reducible rfl)
 rotate_left
 ·(
 simp only[zP,i64_w,i32_w]
 rfl)
 refine pure_ (i:=3) (N:=some 44) (v:=?_) (a':=?_) (bN 9 14) rfl rfl (any_of d.out (by kernel_rfl)) (fun _ _ _ h=>h) (Or.inl ⟨by rfl,?_⟩) ?_ ?_
 rotate_left
 ·(
 intro w'
 go_simp
 with_reducible rfl)
 rotate_left
 ·(
 simp only[zP,i64_w,i32_w]
 rfl)
 refine pure_ (i:=5) (N:=some 46) (v:=?_) (a':=?_) (bN 9 46) rfl rfl (any_of d.out (by kernel_rfl)) (fun _ _ _ h=>h) (Or.inl ⟨by rfl,?_⟩) ?_ ?_
 rotate_left
 ·(
 intro w'
 go_simp
 with_reducible rfl)
 rotate_left
 ·(
 simp only[zP,i64_w,i32_w]
 rfl)
 refine pure_ (i:=6) (N:=some 47) (v:=?_) (a':=?_) (bN 9 110) rfl rfl (any_of d.out (by kernel_rfl)) (fun _ _ _ h=>h) (Or.inl ⟨by rfl,?_⟩) ?_ ?_
 rotate_left
 ·(
 intro w'
 go_simp
 with_reducible rfl)
 rotate_left
 ·(
 simp only[zP,i64_w,i32_w]
 rfl)
 refine take_ (i:=0) (N:=some 41) (v:=?_) (a':=?_) (bN 9 111) rfl rfl (take_ofW d.out p.out (by kernel_rfl)) (fun _ _ _ h=>h) (Or.inl ⟨by rfl,?_⟩) hHeld ?_ ?_
 rotate_left
 ·(
 rintro w' ⟨D,E,F⟩
 go_simp
 with_reducible rfl)
 rotate_left
 ·(
 simp only[zP,i64_w,i32_w]
 rfl)
 refine take_ (i:=4) (N:=some 45) (v:=?_) (a':=?_) (bN 9 127) rfl rfl (take_ofW d.out p.out (by kernel_rfl)) (fun _ _ _ h=>h) (Or.inl ⟨by rfl,?_⟩) hHeld ?_ ?_
 rotate_left
 ·(
 rintro w' ⟨D,E,F⟩
 go_simp
 with_reducible rfl)
 rotate_left
 ·(
 simp only[zP,i64_w,i32_w]
 rfl)
 refine one_ (i:=7) (N:=some 48) (bN 9 255) rfl rfl (one_of d.out (by kernel_rfl)) (by decide) (fun K hK=>?_)
 refine goes_ Try.func37 (by kernel_rfl) rfl #[.agg #[.slice A0_0 l0_0.length c0_0,.slice A0_1 l0_1.length c0_1],.int .i64 (rd t363 a),.int .i64 (rd y366 a),.int .i64 39] (by rfl) rfl rfl (by(try simp only[List.map_toArray,List.map_cons,List.map_nil]);first|done|rfl|(simp only[List.length_drop,List.length_take];rfl)) ?_
 with_reducible refine(impl_PatternCode_isGoodRegion.calls k2 _ _ l0_0 _ _ l0_1 (rd t363 a) (rd y366 a) 39 true _ ?side1 ?side2 ?side3 ?side4 aE.out).mono ?_
 (case side1=>exact sD (zC r.out HB.out))
 (case side2=>exact s.out)
 (case side3=>exact sD (zC u.out HB.out))
 (case side4=>exact x.out)
 rintro e bt ⟨rfl,hb⟩
 have G:=(hb.cell (zL _ _ (hHeld.2.2))).trans (hHeld.2.2)
 refine⟨_,rfl,?_⟩
 replace j:=zM (Kd.R_below (sE j.out) hb)
 replace b:=sK b hb
 replace g:=zM (zC (by repeat(first|(with_reducible exact g.out)|(with_reducible refine Kd.C_alloc ?_ _)|(with_reducible refine Kd.C_drewN ?_ _)|(with_reducible refine Kd.C_drew ?_)|exact g.out)) hb)
 replace HB:=sB HB hb
 (try clear hb)
 (try clear hb2)
 (try clear hk)
 (try clear hi)
 refine hK.out _ _ ⟨(blk_cell b.out 0).trans rfl,(blk_cell b.out 1).trans rfl,G⟩ (fun hHeld=>?_)
 clear hK K
 refine norm_ (a':=?_) ?_ ?_
 rotate_left
 ·(
 show Act.put _ (some 48) _=_
 simp only[zP,i64_w,i32_w]
 rfl)
 refine pure_ (i:=8) (N:=some 49) (v:=?_) (a':=?_) (bN 9 511) rfl rfl (any_of d.out (by kernel_rfl)) (fun _ _ _ h=>h) (Or.inl ⟨by rfl,?_⟩) ?_ ?_
 rotate_left
 ·(
 intro w'
 go_simp
 with_reducible rfl)
 rotate_left
 ·(
 simp only[zP,i64_w,i32_w]
 rfl)
 refine done_ (done_of d.out (by kernel_rfl)) ?_
 try go_wp2
 go_roundg k2
 case measure=>have:=ac.out;have:=af.out;omega
 case rel=>exact⟨(wrap64 (a+1)),sr,H',⟨by have:=ac.out;have:=af.out;omega⟩,⟨by exact sE j.out⟩,⟨by exact sT b.out⟩,⟨by repeat(first|(with_reducible exact g.out)|(with_reducible refine Kd.C_alloc ?_ _)|(with_reducible refine Kd.C_drewN ?_ _)|(with_reducible refine Kd.C_drew ?_)|exact g.out)⟩,⟨sb⟩⟩)
 replace aj:=zB aj
 subst aj
 rewrite[if_neg zQ]at H
 simp only[Option.some.injEq,Prod.mk.injEq]at H
 obtain⟨rfl,rfl⟩:=H
 have l:0≤(a:Int):=zzA
 have o:a<(y366.length:Int):=zzA
 obtain⟨aq,z,ar⟩:=Kd.at_int g.out a l o
 cases z
 replace l:=eq_true l
 replace o:=eq_true o
 try go_wp2
 replace j:=zM (Kd.R_drew j.out)
 replace b:=zM (blk_drew b.out)
 replace g:=zM (Kd.C_drew g.out)
 replace HB:=zM (below_drew1 HB.out)
 have A:0≤(a:Int):=zzA
 have B:a<(t363.length:Int):=zzA
 obtain⟨au,av,Y⟩:=Kd.at_int (Kd.R_reads' j.out).2.2 a A B
 cases av
 replace A:=eq_true A
 replace B:=eq_true B
 refine start_ (n:=9) (S:=fun w'=>w'.cell? ⟨q,0,none⟩=some (.slice A0_0 l0_0.length c0_0)∧w'.cell? ⟨q,1,none⟩=some (.slice A0_1 l0_1.length c0_1)∧w'.cell? (au.add (a).toNat)=some (.int .i64 (rd t363 a))) (ds:=[]) #[false,false,false,false,false,false,false,false,false] (by kernel_rfl) rfl rfl ⟨(blk_cell b.out 0).trans rfl,(blk_cell b.out 1).trans rfl,Y⟩ (fun hHeld=>?_);refine with_tabW impl_PatternCode_checked.tab10 impl_PatternCode_checked.bits10 (fun d p=>?_)
 generalize wr.drew=w33 at j b g HB Y hHeld ⊢
 refine pure_ (i:=1) (N:=some 42) (v:=?_) (a':=?_) (bN 9 2) rfl rfl (any_of d.out (by kernel_rfl)) (fun _ _ _ h=>h) (Or.inl ⟨by rfl,?_⟩) ?_ ?_
 rotate_left
 ·(
 intro w'
 go_simp
 with_reducible rfl)
 rotate_left
 ·(
 simp only[zP,i64_w,i32_w]
 rfl)
 refine pure_ (i:=2) (N:=some 43) (v:=?_) (a':=?_) (bN 9 6) rfl rfl (any_of d.out (by kernel_rfl)) (fun _ _ _ h=>h) (Or.inl ⟨by rfl,?_⟩) ?_ ?_
 rotate_left
 ·(
 intro w'
 go_simp
 with_reducible rfl)
 rotate_left
 ·(
 simp only[zP,i64_w,i32_w]
 rfl)
 refine pure_ (i:=3) (N:=some 44) (v:=?_) (a':=?_) (bN 9 14) rfl rfl (any_of d.out (by kernel_rfl)) (fun _ _ _ h=>h) (Or.inl ⟨by rfl,?_⟩) ?_ ?_
 rotate_left
 ·(
 intro w'
 go_simp
 with_reducible rfl)
 rotate_left
 ·(
 simp only[zP,i64_w,i32_w]
 rfl)
 refine pure_ (i:=5) (N:=some 46) (v:=?_) (a':=?_) (bN 9 46) rfl rfl (any_of d.out (by kernel_rfl)) (fun _ _ _ h=>h) (Or.inl ⟨by rfl,?_⟩) ?_ ?_
 rotate_left
 ·(
 intro w'
 go_simp
 with_reducible rfl)
 rotate_left
 ·(
 simp only[zP,i64_w,i32_w]
 rfl)
 refine pure_ (i:=6) (N:=some 47) (v:=?_) (a':=?_) (bN 9 110) rfl rfl (any_of d.out (by kernel_rfl)) (fun _ _ _ h=>h) (Or.inl ⟨by rfl,?_⟩) ?_ ?_
 rotate_left
 ·(
 intro w'
 go_simp
 with_reducible rfl)
 rotate_left
 ·(
 simp only[zP,i64_w,i32_w]
 rfl)
 refine take_ (i:=0) (N:=some 41) (v:=?_) (a':=?_) (bN 9 111) rfl rfl (take_ofW d.out p.out (by kernel_rfl)) (fun _ _ _ h=>h) (Or.inl ⟨by rfl,?_⟩) hHeld ?_ ?_
 rotate_left
 ·(
 rintro w' ⟨D,E,F⟩
 go_simp
 with_reducible rfl)
 rotate_left
 ·(
 simp only[zP,i64_w,i32_w]
 rfl)
 refine take_ (i:=4) (N:=some 45) (v:=?_) (a':=?_) (bN 9 127) rfl rfl (take_ofW d.out p.out (by kernel_rfl)) (fun _ _ _ h=>h) (Or.inl ⟨by rfl,?_⟩) hHeld ?_ ?_
 rotate_left
 ·(
 rintro w' ⟨D,E,F⟩
 go_simp
 with_reducible rfl)
 rotate_left
 ·(
 simp only[zP,i64_w,i32_w]
 rfl)
 refine one_ (i:=7) (N:=some 48) (bN 9 255) rfl rfl (one_of d.out (by kernel_rfl)) (by decide) (fun K hK=>?_)
 refine goes_ Try.func37 (by kernel_rfl) rfl #[.agg #[.slice A0_0 l0_0.length c0_0,.slice A0_1 l0_1.length c0_1],.int .i64 (rd t363 a),.int .i64 (rd y366 a),.int .i64 39] (by rfl) rfl rfl (by(try simp only[List.map_toArray,List.map_cons,List.map_nil]);first|done|rfl|(simp only[List.length_drop,List.length_take];rfl)) ?_
 with_reducible refine(impl_PatternCode_isGoodRegion.calls k2 _ _ l0_0 _ _ l0_1 (rd t363 a) (rd y366 a) 39 false _ ?side1 ?side2 ?side3 ?side4 aE.out).mono ?_
 (case side1=>exact sD (zC r.out HB.out))
 (case side2=>exact s.out)
 (case side3=>exact sD (zC u.out HB.out))
 (case side4=>exact x.out)
 rintro e bu ⟨rfl,hb⟩
 have G:=(hb.cell (zL _ _ (hHeld.2.2))).trans (hHeld.2.2)
 refine⟨_,rfl,?_⟩
 replace j:=zM (Kd.R_below (sE j.out) hb)
 replace b:=sK b hb
 replace g:=zM (zC (by repeat(first|(with_reducible exact g.out)|(with_reducible refine Kd.C_alloc ?_ _)|(with_reducible refine Kd.C_drewN ?_ _)|(with_reducible refine Kd.C_drew ?_)|exact g.out)) hb)
 replace HB:=sB HB hb
 (try clear hb)
 (try clear hb2)
 (try clear hk)
 (try clear hi)
 refine hK.out _ _ ⟨(blk_cell b.out 0).trans rfl,(blk_cell b.out 1).trans rfl,G⟩ (fun hHeld=>?_)
 clear hK K
 refine norm_ (a':=?_) ?_ ?_
 rotate_left
 ·(
 show Act.put _ (some 48) _=_
 simp only[zP,i64_w,i32_w]
 rfl)
 refine pure_ (i:=8) (N:=some 49) (v:=?_) (a':=?_) (bN 9 511) rfl rfl (any_of d.out (by kernel_rfl)) (fun _ _ _ h=>h) (Or.inl ⟨by rfl,?_⟩) ?_ ?_
 rotate_left
 ·(
 intro w'
 go_simp
 with_reducible rfl)
 rotate_left
 ·(
 simp only[zP,i64_w,i32_w]
 rfl)
 refine done_ (done_of d.out (by kernel_rfl)) ?_
 try go_wp2
 go_ret2
 exact⟨_,sq,by first|exact Kd.R_nil _ _ _ _ _|exact Kd.N_nil _ _ _ _ _|exact Kd.V_nil _ _ _ _ _|exact Kd.Q_nil _ _ _ _ _|exact Kd.S_nil _ _ _ _ _,sb⟩)
 rw[if_neg ai]at H
 exact absurd H (by simp))
 rw[if_neg y]at H
 have c27b0:(a==0)=false:=zN y
 have c27b1:(a !=0)=true:=zX y
 by_cases ak:a<(t363.length:Int)
 ·(
 rw[if_pos ak]at H
 have c35b0:=zT ak
 clear ak
 obtain⟨aU,aF,H⟩:=sO H
 by_cases al:aU=true
 ·(
 subst al
 rewrite[if_pos rfl]at H
 have H':=zM H
 clear H
 have l:0≤(a:Int):=zzA
 have o:a<(y366.length:Int):=zzA
 obtain⟨aq,z,ar⟩:=Kd.at_int g.out a l o
 cases z
 replace l:=eq_true l
 replace o:=eq_true o
 try go_wp2
 replace j:=zM (Kd.R_drew j.out)
 replace b:=zM (blk_drew b.out)
 replace g:=zM (Kd.C_drew g.out)
 replace HB:=zM (below_drew1 HB.out)
 have I:0≤(a:Int):=zzA
 have J:a<(t363.length:Int):=zzA
 obtain⟨aw,ax,Z⟩:=Kd.at_int (Kd.R_reads' j.out).2.2 a I J
 cases ax
 replace I:=eq_true I
 replace J:=eq_true J
 refine start_ (n:=9) (S:=fun w'=>w'.cell? ⟨q,0,none⟩=some (.slice A0_0 l0_0.length c0_0)∧w'.cell? ⟨q,1,none⟩=some (.slice A0_1 l0_1.length c0_1)∧w'.cell? (aw.add (a).toNat)=some (.int .i64 (rd t363 a))) (ds:=[]) #[false,false,false,false,false,false,false,false,false] (by kernel_rfl) rfl rfl ⟨(blk_cell b.out 0).trans rfl,(blk_cell b.out 1).trans rfl,Z⟩ (fun hHeld=>?_);refine with_tabW impl_PatternCode_checked.tab10 impl_PatternCode_checked.bits10 (fun d p=>?_)
 generalize wr.drew=w38 at j b g HB Z hHeld ⊢
 refine pure_ (i:=1) (N:=some 42) (v:=?_) (a':=?_) (bN 9 2) rfl rfl (any_of d.out (by kernel_rfl)) (fun _ _ _ h=>h) (Or.inl ⟨by rfl,?_⟩) ?_ ?_
 rotate_left
 ·(
 intro w'
 go_simp
 with_reducible rfl)
 rotate_left
 ·(
 simp only[zP,i64_w,i32_w]
 rfl)
 refine pure_ (i:=2) (N:=some 43) (v:=?_) (a':=?_) (bN 9 6) rfl rfl (any_of d.out (by kernel_rfl)) (fun _ _ _ h=>h) (Or.inl ⟨by rfl,?_⟩) ?_ ?_
 rotate_left
 ·(
 intro w'
 go_simp
 with_reducible rfl)
 rotate_left
 ·(
 simp only[zP,i64_w,i32_w]
 rfl)
 refine pure_ (i:=3) (N:=some 44) (v:=?_) (a':=?_) (bN 9 14) rfl rfl (any_of d.out (by kernel_rfl)) (fun _ _ _ h=>h) (Or.inl ⟨by rfl,?_⟩) ?_ ?_
 rotate_left
 ·(
 intro w'
 go_simp
 with_reducible rfl)
 rotate_left
 ·(
 simp only[zP,i64_w,i32_w]
 rfl)
 refine pure_ (i:=5) (N:=some 46) (v:=?_) (a':=?_) (bN 9 46) rfl rfl (any_of d.out (by kernel_rfl)) (fun _ _ _ h=>h) (Or.inl ⟨by rfl,?_⟩) ?_ ?_
 rotate_left
 ·(
 intro w'
 go_simp
 with_reducible rfl)
 rotate_left
 ·(
 simp only[zP,i64_w,i32_w]
 rfl)
 refine pure_ (i:=6) (N:=some 47) (v:=?_) (a':=?_) (bN 9 110) rfl rfl (any_of d.out (by kernel_rfl)) (fun _ _ _ h=>h) (Or.inl ⟨by rfl,?_⟩) ?_ ?_
 rotate_left
 ·(
 intro w'
 go_simp
 with_reducible rfl)
 rotate_left
 ·(
 simp only[zP,i64_w,i32_w]
 rfl)
 refine take_ (i:=0) (N:=some 41) (v:=?_) (a':=?_) (bN 9 111) rfl rfl (take_ofW d.out p.out (by kernel_rfl)) (fun _ _ _ h=>h) (Or.inl ⟨by rfl,?_⟩) hHeld ?_ ?_
 rotate_left
 ·(
 rintro w' ⟨D,E,F⟩
 go_simp
 with_reducible rfl)
 rotate_left
 ·(
 simp only[zP,i64_w,i32_w]
 rfl)
 refine take_ (i:=4) (N:=some 45) (v:=?_) (a':=?_) (bN 9 127) rfl rfl (take_ofW d.out p.out (by kernel_rfl)) (fun _ _ _ h=>h) (Or.inl ⟨by rfl,?_⟩) hHeld ?_ ?_
 rotate_left
 ·(
 rintro w' ⟨D,E,F⟩
 go_simp
 with_reducible rfl)
 rotate_left
 ·(
 simp only[zP,i64_w,i32_w]
 rfl)
 refine one_ (i:=7) (N:=some 48) (bN 9 255) rfl rfl (one_of d.out (by kernel_rfl)) (by decide) (fun K hK=>?_)
 refine goes_ Try.func37 (by kernel_rfl) rfl #[.agg #[.slice A0_0 l0_0.length c0_0,.slice A0_1 l0_1.length c0_1],.int .i64 (rd t363 a),.int .i64 (rd y366 a),.int .i64 38] (by rfl) rfl rfl (by(try simp only[List.map_toArray,List.map_cons,List.map_nil]);first|done|rfl|(simp only[List.length_drop,List.length_take];rfl)) ?_
 with_reducible refine(impl_PatternCode_isGoodRegion.calls k2 _ _ l0_0 _ _ l0_1 (rd t363 a) (rd y366 a) 38 true _ ?side1 ?side2 ?side3 ?side4 aF.out).mono ?_
 (case side1=>exact sD (zC r.out HB.out))
 (case side2=>exact s.out)
 (case side3=>exact sD (zC u.out HB.out))
 (case side4=>exact x.out)
 rintro e bv ⟨rfl,hb⟩
 have G:=(hb.cell (zL _ _ (hHeld.2.2))).trans (hHeld.2.2)
 refine⟨_,rfl,?_⟩
 replace j:=zM (Kd.R_below (sE j.out) hb)
 replace b:=sK b hb
 replace g:=zM (zC (by repeat(first|(with_reducible exact g.out)|(with_reducible refine Kd.C_alloc ?_ _)|(with_reducible refine Kd.C_drewN ?_ _)|(with_reducible refine Kd.C_drew ?_)|exact g.out)) hb)
 replace HB:=sB HB hb
 (try clear hb)
 (try clear hb2)
 (try clear hk)
 (try clear hi)
 refine hK.out _ _ ⟨(blk_cell b.out 0).trans rfl,(blk_cell b.out 1).trans rfl,G⟩ (fun hHeld=>?_)
 clear hK K
 refine norm_ (a':=?_) ?_ ?_
 rotate_left
 ·(
 show Act.put _ (some 48) _=_
 simp only[zP,i64_w,i32_w]
 rfl)
 refine pure_ (i:=8) (N:=some 49) (v:=?_) (a':=?_) (bN 9 511) rfl rfl (any_of d.out (by kernel_rfl)) (fun _ _ _ h=>h) (Or.inl ⟨by rfl,?_⟩) ?_ ?_
 rotate_left
 ·(
 intro w'
 go_simp
 with_reducible rfl)
 rotate_left
 ·(
 simp only[zP,i64_w,i32_w]
 rfl)
 refine done_ (done_of d.out (by kernel_rfl)) ?_
 try go_wp2
 go_roundg k2
 case measure=>have:=ac.out;have:=af.out;omega
 case rel=>exact⟨(wrap64 (a+1)),sr,H',⟨by have:=ac.out;have:=af.out;omega⟩,⟨by exact sE j.out⟩,⟨by exact sT b.out⟩,⟨by repeat(first|(with_reducible exact g.out)|(with_reducible refine Kd.C_alloc ?_ _)|(with_reducible refine Kd.C_drewN ?_ _)|(with_reducible refine Kd.C_drew ?_)|exact g.out)⟩,⟨sb⟩⟩)
 replace al:=zB al
 subst al
 rewrite[if_neg zQ]at H
 simp only[Option.some.injEq,Prod.mk.injEq]at H
 obtain⟨rfl,rfl⟩:=H
 have l:0≤(a:Int):=zzA
 have o:a<(y366.length:Int):=zzA
 obtain⟨aq,z,ar⟩:=Kd.at_int g.out a l o
 cases z
 replace l:=eq_true l
 replace o:=eq_true o
 try go_wp2
 replace j:=zM (Kd.R_drew j.out)
 replace b:=zM (blk_drew b.out)
 replace g:=zM (Kd.C_drew g.out)
 replace HB:=zM (below_drew1 HB.out)
 have I:0≤(a:Int):=zzA
 have J:a<(t363.length:Int):=zzA
 obtain⟨aw,ax,Z⟩:=Kd.at_int (Kd.R_reads' j.out).2.2 a I J
 cases ax
 replace I:=eq_true I
 replace J:=eq_true J
 refine start_ (n:=9) (S:=fun w'=>w'.cell? ⟨q,0,none⟩=some (.slice A0_0 l0_0.length c0_0)∧w'.cell? ⟨q,1,none⟩=some (.slice A0_1 l0_1.length c0_1)∧w'.cell? (aw.add (a).toNat)=some (.int .i64 (rd t363 a))) (ds:=[]) #[false,false,false,false,false,false,false,false,false] (by kernel_rfl) rfl rfl ⟨(blk_cell b.out 0).trans rfl,(blk_cell b.out 1).trans rfl,Z⟩ (fun hHeld=>?_);refine with_tabW impl_PatternCode_checked.tab10 impl_PatternCode_checked.bits10 (fun d p=>?_)
 generalize wr.drew=w40 at j b g HB Z hHeld ⊢
 refine pure_ (i:=1) (N:=some 42) (v:=?_) (a':=?_) (bN 9 2) rfl rfl (any_of d.out (by kernel_rfl)) (fun _ _ _ h=>h) (Or.inl ⟨by rfl,?_⟩) ?_ ?_
 rotate_left
 ·(
 intro w'
 go_simp
 with_reducible rfl)
 rotate_left
 ·(
 simp only[zP,i64_w,i32_w]
 rfl)
 refine pure_ (i:=2) (N:=some 43) (v:=?_) (a':=?_) (bN 9 6) rfl rfl (any_of d.out (by kernel_rfl)) (fun _ _ _ h=>h) (Or.inl ⟨by rfl,?_⟩) ?_ ?_
 rotate_left
 ·(
 intro w'
 go_simp
 with_reducible rfl)
 rotate_left
 ·(
 simp only[zP,i64_w,i32_w]
 rfl)
 refine pure_ (i:=3) (N:=some 44) (v:=?_) (a':=?_) (bN 9 14) rfl rfl (any_of d.out (by kernel_rfl)) (fun _ _ _ h=>h) (Or.inl ⟨by rfl,?_⟩) ?_ ?_
 rotate_left
 ·(
 intro w'
 go_simp
 with_reducible rfl)
 rotate_left
 ·(
 simp only[zP,i64_w,i32_w]
 rfl)
 refine pure_ (i:=5) (N:=some 46) (v:=?_) (a':=?_) (bN 9 46) rfl rfl (any_of d.out (by kernel_rfl)) (fun _ _ _ h=>h) (Or.inl ⟨by rfl,?_⟩) ?_ ?_
 rotate_left
 ·(
 intro w'
 go_simp
 with_reducible rfl)
 rotate_left
 ·(
 simp only[zP,i64_w,i32_w]
 rfl)
 refine pure_ (i:=6) (N:=some 47) (v:=?_) (a':=?_) (bN 9 110) rfl rfl (any_of d.out (by kernel_rfl)) (fun _ _ _ h=>h) (Or.inl ⟨by rfl,?_⟩) ?_ ?_
 rotate_left
 ·(
 intro w'
 go_simp
 with_reducible rfl)
 rotate_left
 ·(
 simp only[zP,i64_w,i32_w]
 rfl)
 refine take_ (i:=0) (N:=some 41) (v:=?_) (a':=?_) (bN 9 111) rfl rfl (take_ofW d.out p.out (by kernel_rfl)) (fun _ _ _ h=>h) (Or.inl ⟨by rfl,?_⟩) hHeld ?_ ?_
 rotate_left
 ·(
 rintro w' ⟨D,E,F⟩
 go_simp
 with_reducible rfl)
 rotate_left
 ·(
 simp only[zP,i64_w,i32_w]
 rfl)
 refine take_ (i:=4) (N:=some 45) (v:=?_) (a':=?_) (bN 9 127) rfl rfl (take_ofW d.out p.out (by kernel_rfl)) (fun _ _ _ h=>h) (Or.inl ⟨by rfl,?_⟩) hHeld ?_ ?_
 rotate_left
 ·(
 rintro w' ⟨D,E,F⟩
 go_simp
 with_reducible rfl)
 rotate_left
 ·(
 simp only[zP,i64_w,i32_w]
 rfl)
 refine one_ (i:=7) (N:=some 48) (bN 9 255) rfl rfl (one_of d.out (by kernel_rfl)) (by decide) (fun K hK=>?_)
 refine goes_ Try.func37 (by kernel_rfl) rfl #[.agg #[.slice A0_0 l0_0.length c0_0,.slice A0_1 l0_1.length c0_1],.int .i64 (rd t363 a),.int .i64 (rd y366 a),.int .i64 38] (by rfl) rfl rfl (by(try simp only[List.map_toArray,List.map_cons,List.map_nil]);first|done|rfl|(simp only[List.length_drop,List.length_take];rfl)) ?_
 with_reducible refine(impl_PatternCode_isGoodRegion.calls k2 _ _ l0_0 _ _ l0_1 (rd t363 a) (rd y366 a) 38 false _ ?side1 ?side2 ?side3 ?side4 aF.out).mono ?_
 (case side1=>exact sD (zC r.out HB.out))
 (case side2=>exact s.out)
 (case side3=>exact sD (zC u.out HB.out))
 (case side4=>exact x.out)
 rintro e bw ⟨rfl,hb⟩
 have G:=(hb.cell (zL _ _ (hHeld.2.2))).trans (hHeld.2.2)
 refine⟨_,rfl,?_⟩
 replace j:=zM (Kd.R_below (sE j.out) hb)
 replace b:=sK b hb
 replace g:=zM (zC (by repeat(first|(with_reducible exact g.out)|(with_reducible refine Kd.C_alloc ?_ _)|(with_reducible refine Kd.C_drewN ?_ _)|(with_reducible refine Kd.C_drew ?_)|exact g.out)) hb)
 replace HB:=sB HB hb
 (try clear hb)
 (try clear hb2)
 (try clear hk)
 (try clear hi)
 refine hK.out _ _ ⟨(blk_cell b.out 0).trans rfl,(blk_cell b.out 1).trans rfl,G⟩ (fun hHeld=>?_)
 clear hK K
 refine norm_ (a':=?_) ?_ ?_
 rotate_left
 ·(
 show Act.put _ (some 48) _=_
 simp only[zP,i64_w,i32_w]
 rfl)
 refine pure_ (i:=8) (N:=some 49) (v:=?_) (a':=?_) (bN 9 511) rfl rfl (any_of d.out (by kernel_rfl)) (fun _ _ _ h=>h) (Or.inl ⟨by rfl,?_⟩) ?_ ?_
 rotate_left
 ·(
 intro w'
 go_simp
 with_reducible rfl)
 rotate_left
 ·(
 simp only[zP,i64_w,i32_w]
 rfl)
 refine done_ (done_of d.out (by kernel_rfl)) ?_
 try go_wp2
 go_ret2
 exact⟨_,sq,by first|exact Kd.R_nil _ _ _ _ _|exact Kd.N_nil _ _ _ _ _|exact Kd.V_nil _ _ _ _ _|exact Kd.Q_nil _ _ _ _ _|exact Kd.S_nil _ _ _ _ _,sb⟩)
 rw[if_neg ak]at H
 exact absurd H (by simp))
 rw[if_neg ah]at H
 exact absurd H (by simp))
 rw[if_neg ag]at H
 exact absurd H (by simp))
 rw[if_neg T]at H
 have c24b0:=zF T
 clear T
 replace H:=Option.bind_eq_some_iff.mp H
 obtain⟨⟨aG,aH⟩,aI,H⟩:=H
 replace H:(some (aG,aH))=some (r1,r2):=H
 have aV:=zM aI
 clear aI
 simp only[Option.some.injEq,Prod.mk.injEq]at H
 obtain⟨rfl,rfl⟩:=H
 obtain⟨bx,bz,bA,bB⟩:=cells2 b.out
 go_wp2_with (first|((with_reducible refine gate_callee (f:=38) rfl ?_);refine sC (some 52) Try.func38 #[.agg #[.slice A0_0 l0_0.length c0_0,.slice A0_1 l0_1.length c0_1]] (impl_PatternCode_marks.calls k2 _ _ l0_0 _ _ l0_1 aG aH _ ?side1 ?side2 ?side3 ?side4 aV.out) ?_;(case side1=>exact sD (zC r.out HB.out));(case side2=>exact s.out);(case side3=>exact sD (zC u.out HB.out));(case side4=>exact x.out);rintro e bC ⟨bD,rfl,Q,hb⟩;refine⟨_,rfl,?_⟩;have aW:=zM (Kd.R_lower (Kd.R_new' Q (Kd.R_lt (sE j.out))) (below_size zzR));replace j:=zM (Kd.R_elder' (sE j.out) (Kd.R_base Q) hb);replace b:=sK b hb;replace g:=zM (zC (by repeat(first|(with_reducible exact g.out)|(with_reducible refine Kd.C_alloc ?_ _)|(with_reducible refine Kd.C_drewN ?_ _)|(with_reducible refine Kd.C_drew ?_)|exact g.out)) hb);replace HB:=sB HB hb;(try clear hb);(try clear Q)))
 go_ret2
 exact⟨_,sq,by(with_reducible repeat(first|apply Kd.R_alloc|apply Kd.R_drewN|apply Kd.R_drew));exact Kd.R_mono aW.out (fun _ hk=>trivial),sb⟩)))
 rw[if_neg O]at H
 exact absurd H (by simp)))
end Go.Proofs.Ytcppdkdnpmgpmaa.PFnExactEntryOf
