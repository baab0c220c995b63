/- Printed functions: spec_LogicalLines. -/
import Derived.Test.YtjmojijopammjaaDoorYLlP0
import Derived.Test.YtjmojijopammjaaDoorYLlP1
import Derived.Test.YtjmojijopammjaaDoorYLlP2
namespace Go.Proofs.YtjmojijopammjaaDoor.PFnExactLogicalLines
open Go.RowKit Go.Proofs.YtjmojijopammjaaDoorG Go.Proofs.YtjmojijopammjaaDoorW.PrintWords Go.Proofs.YtjmojijopammjaaDoorW.PrintLast Go.Proofs.YtjmojijopammjaaDoorW.PrintMore
attribute [local go_sem] max2_int min2_int max_two min_two max_three min_three max_four min_four
set_option linter.unusedVariables false
set_option linter.unusedSimpArgs false
mutual
def spec_LogicalLines.l0 : Nat → List (S88) → List ByteArray → Int → Option ((List (S88)) × Int × Int)
 |0,_,_,_=>none
 |k+1,x5,x6,x7=>if x7<(x6.length:Int)then(if 0≤x7 then((spec_IsBlankLine.f k (rdOf ByteArray.empty x6 x7)).bind fun t141=>(if t141=true then(spec_LogicalLines.j1 k x5 x6 x7 (rdOf ByteArray.empty x6 x7) true)else((spec_IsComment.f (rdOf ByteArray.empty x6 x7)).bind fun t142=>(spec_LogicalLines.j1 k x5 x6 x7 (rdOf ByteArray.empty x6 x7) t142))))else(none))else(spec_LogicalLines.l1 k x5 (([]:List (S88))) 0)
def spec_LogicalLines.j1 : Nat → List (S88) → List ByteArray → Int → ByteArray → Bool → Option ((List (S88)) × Int × Int)
 |0,_,_,_,_,_=>none
 |k+1,x5,x6,x7,x8,x38=>if x38=true then(spec_LogicalLines.l0 k x5 x6 (wrap64 (x7+1)))else((spec_IsContinuation.f x8).bind fun t143=>(if t143=true then(if(x5.length:Int)=0 then(some ((([]:List (S88))),wrap64 (x7+1),2))else(if 0≤(wrap64 ((x5.length:Int)- 1))then(if(wrap64 ((x5.length:Int)- 1))<(x5.length:Int)then(if 1≤(x8.size:Int)then(if 1+((x8.extract 1 x8.size).size)≤9223372036854775807 then(if((rd_T88 x5 (wrap64 ((x5.length:Int)- 1))).f1).size+(1+((x8.extract 1 x8.size).size))≤9223372036854775807 then(spec_LogicalLines.l0 k (x5.set ((wrap64 ((x5.length:Int)- 1)):Int).toNat (⟨(rd_T88 x5 (wrap64 ((x5.length:Int)- 1))).f0,((rd_T88 x5 (wrap64 ((x5.length:Int)- 1))).f1)++((⟨#[32]⟩:ByteArray)++(x8.extract 1 x8.size))⟩:S88)) x6 (wrap64 (x7+1)))else(none))else(none))else(none))else(none))else(none)))else(if x5.length<5864062014805 then(spec_LogicalLines.l0 k (x5++[(⟨wrap64 (x7+1),x8⟩:S88)]) x6 (wrap64 (x7+1)))else(none))))
def spec_LogicalLines.l1 : Nat → List (S88) → List (S88) → Int → Option ((List (S88)) × Int × Int)
 |0,_,_,_=>none
 |k+1,x5,x10,x11=>if x11<(x5.length:Int)then(if 0≤x11 then((spec_SplitStatements.f k ((rd_T88 x5 x11).f1)).bind fun t156=>(spec_LogicalLines.l2 k x5 x10 x11 t156 0))else(none))else(some (x10,0,0))
def spec_LogicalLines.l2 : Nat → List (S88) → List (S88) → Int → List ByteArray → Int → Option ((List (S88)) × Int × Int)
 |0,_,_,_,_,_=>none
 |k+1,x5,x10,x11,x12,x13=>if x13<(x12.length:Int)then(if 0≤x13 then((spec_IsBlankLine.f k (rdOf ByteArray.empty x12 x13)).bind fun t160=>(if t160=true then(spec_LogicalLines.l2 k x5 x10 x11 x12 (wrap64 (x13+1)))else(if 0≤x11 then(if x11<(x5.length:Int)then(if x10.length<5864062014805 then(spec_LogicalLines.l2 k x5 (x10++[(⟨(rd_T88 x5 x11).f0,rdOf ByteArray.empty x12 x13⟩:S88)]) x11 x12 (wrap64 (x13+1)))else(none))else(none))else(none))))else(none))else(spec_LogicalLines.l1 k x5 x10 (wrap64 (x11+1)))
end
def spec_LogicalLines.f (k:Nat) (a0:ByteArray):Option ((List (S88))×Int×Int):=(spec_ValidSource.f k a0).bind fun t130=>(if t130=true then((spec_SplitLines.f k a0).bind fun t137=>(spec_LogicalLines.l0 k (([]:List (S88))) t137 0))else(some ((([]:List (S88))),0,1)))
def spec_LogicalLines.T15:Bool×List (List Nat×List Nat):=(true,[([],[]),([],[]),([0,1],[0,1]),([2],[2]),([3],[3]),([],[]),([5],[5]),([6],[6]),([4,7],[4,7]),([0,1,0,1,2,3,4,5,6,7,8],[0,1]),([9,0,1,2,3,4,5,6,7,8],[9]),([10,8,0,1,2,3,4,5,6,7,8],[8,10])])
def spec_LogicalLines.B15:List Nat:=[0,0,3,7,15,0,32,96,255,511,1023,2047]
theorem spec_LogicalLines.tab15:rtab .any (opsOf Tryd.f24 15)=spec_LogicalLines.T15:=by kernel_rfl
theorem spec_LogicalLines.bits15:waitsOk spec_LogicalLines.T15.2 spec_LogicalLines.B15=true:=by kernel_rfl
def spec_LogicalLines.T25:Bool×List (List Nat×List Nat):=(true,[([],[]),([],[]),([],[]),([1,2],[1,2]),([3],[3]),([4],[4]),([],[]),([],[]),([6,7],[6,7]),([8],[8]),([5,9],[5,9]),([10],[10]),([0,11],[0,11]),([12,12,0,1,2,3,4,5,6,7,8,9,10,11,12],[0,12])])
def spec_LogicalLines.B25:List Nat:=[0,0,0,6,14,30,0,0,192,448,1022,2046,4095,8191]
theorem spec_LogicalLines.tab25:rtab .any (opsOf Tryd.f24 25)=spec_LogicalLines.T25:=by kernel_rfl
theorem spec_LogicalLines.bits25:waitsOk spec_LogicalLines.T25.2 spec_LogicalLines.B25=true:=by kernel_rfl
set_option maxHeartbeats 8000000 in
set_option maxRecDepth 100000 in
theorem spec_LogicalLines.calls (k:Nat) (a0:ByteArray) (r1:List (S88)) (r2:Int) (r3:Int) (w:World) (h:spec_LogicalLines.f k a0=some (r1,r2,r3)):
  Calls Tryd.prog 24 #[.string a0] w fun e w'=>∃a6:Value,e= .returned (.tuple #[a6,.int .i64 r2,.int .i64 r3])∧Kd.R k88 88 w' w.heap.size (fun _=>True) a6 r1∧Below w.heap.size w w':=by
 have cj:=Tryd.underlying88
 have HB:=zM (Below.refl w.heap.size w)
 have H:((spec_ValidSource.f k a0).bind fun aK=>(if aK=true then((spec_SplitLines.f k a0).bind fun d=>(spec_LogicalLines.l0 k (([]:List (S88))) d 0))else(some ((([]:List (S88))),0,1))))=some (r1,r2,r3):=h
 clear h
 obtain⟨aK,A2,H⟩:=sO H
 by_cases D:aK=true
 ·(
 subst D
 rewrite[if_pos rfl]at H
 obtain⟨y134,hy134⟩:∃z:List (S88),z=(([]:List (S88))):=⟨_,rfl⟩
 replace H:((spec_SplitLines.f k a0).bind fun d=>(spec_LogicalLines.l0 k y134 d 0))=some (r1,r2,r3):=by first|(rw[hy134];with_reducible exact H)|(have m:=(Option.bind_some _ _).symm.trans H;rw[hy134];with_reducible exact m)|(have m:=(Option.bind_some _ _).symm.trans H;with_reducible exact m)|with_reducible exact H|(rw[hy134];exact H)|exact H
 have a7:=zM hy134
 clear hy134
 obtain⟨d,A4,H⟩:=sO H
 have H':=zM H
 clear H
 go_enter Tryd.func24,Tryd.ntmps24
 go_wp2_with (first|((with_reducible refine gate_callee (f:=62) rfl ?_);refine sC (some 15) Tryd.func62 #[.string a0] (spec_ValidSource.calls k a0 true _ A2.out) ?_;rintro e w5 ⟨rfl,hb⟩;refine⟨_,rfl,?_⟩;replace HB:=sB HB hb;(try clear hb))|((with_reducible refine gate_dst (N:=18) rfl ?_);refine Kd.R_lit k88 _ 88 ?hg (N:=18) ?hd (xs:=([]:List (S88))) (inner:=[]) (ok:=fun _=>True) (okp:=fun _=>True) ?hr ?hp (fun _ hk=>hk) trivial (Below.refl _ _) (Nat.le_refl _) (by simp) ?_;(case hd=>rfl);(case hg=>rfl);(case hr=>first|(go_simp;done)|(go_simp;rfl));(case hp=>exact(Reps.none _ _));intro ck w6 ac hb J L;clear J L;(first|rw[←a7.out]at ac|(simp only[Int.reduceToNat]at ac;rw[←a7.out]at ac));have aM:=zM (Kd.R_lower ac (below_size (sH HB.out)));replace HB:=sB HB hb;clear hb ac)|((with_reducible refine gate_callee (f:=63) rfl ?_);refine sC (some 20) Tryd.func63 #[.string a0] (spec_SplitLines.calls k a0 d _ A4.out) ?_;rintro e w8 ⟨bs,rfl,ad,hb⟩;refine⟨_,rfl,?_⟩;replace aM:=zM (Kd.R_below (sE aM.out) hb);have bt:=zM (Kd.R_lower ad (below_size (sH HB.out)));replace HB:=sB HB hb;(try clear hb);(try clear hk);(try clear ad)))
 go_loopg [5,7] k (fun kq v5 v7 w'=>∃(a:List (S88)) (c:Int),v7= .int .i64 c∧Aside0 (spec_LogicalLines.l0 kq a d c=some (r1,r2,r3))∧Aside0 (kq≤k)∧Aside0 (Kd.R k88 88 w' w.heap.size (fun _=>True) v5 a)∧Aside0 (Kd.R Kd.string 9 w' w.heap.size (fun _=>True) bs d)∧Aside0 (Below w.heap.size w w'))
 case atStart=>exact⟨(y134),(0),sr,H',⟨Nat.le_refl _⟩,⟨by exact sE aM.out⟩,⟨by exact sE bt.out⟩,⟨sb⟩⟩
 case round=>(
 clear H'
 try clear D
 obtain⟨a,c,rfl,HA,y,g,r,HB⟩:=hrel
 cases gk with
 |zero=>exact absurd HA.out (by simp[spec_LogicalLines.l0])
 |succ k1=>(
 have H:=HA.out
 clear HA
 simp only[spec_LogicalLines.l0]at H
 by_cases A:c<(d.length:Int)
 ·(
 rw[if_pos A]at H
 have c9b0:=zT A
 clear A
 by_cases ae:0≤c
 ·(
 rw[if_pos ae]at H
 have c10b0:=zT ae
 clear ae
 have aN:=zM H
 clear H
 obtain⟨cl,a8,bu⟩:=Kd.R_slice r.out
 subst bu
 have al:0≤(c:Int):=zzA
 have am:c<(d.length:Int):=zzA
 obtain⟨a9,bv,bw⟩:=Kd.at_string (Kd.R_reads' r.out).2.2 c al am
 cases bv
 replace al:=eq_true al
 replace am:=eq_true am
 go_upto_region 10 with(fail)
 go_cut [38] (fun bx wc=>∃(kq:Nat) (an:Bool),bx= .bool an∧Aside0 (spec_LogicalLines.j1 kq a d c (rdOf ByteArray.empty d c) an=some (r1,r2,r3))∧Aside0 (kq≤k1)∧Aside0 (Kd.R k88 88 wc w.heap.size (fun _=>True) u5 a)∧Aside0 (Kd.R Kd.string 9 wc w.heap.size (fun _=>True) (.slice (some a9) d.length a8) d)∧Aside0 (Below w.heap.size w wc))
 case first=>(
 have H:=aN.out
 clear aN
 obtain⟨bz,ba,H⟩:=sO H
 by_cases ao:bz=true
 ·(
 subst ao
 rewrite[if_pos rfl]at H
 have H':=zM H
 clear H
 go_wp2_with (first|((with_reducible refine gate_callee (f:=64) rfl ?_);refine sC (some 40) Tryd.func64 #[.string (rdOf ByteArray.empty d c)] (spec_IsBlankLine.calls k1 (rdOf ByteArray.empty d c) true _ ba.out) ?_;rintro e w' ⟨rfl,⟨nd,rfl⟩⟩;refine⟨_,rfl,?_⟩))
 go_meet
 case rel=>exact⟨_,(true),sr,H',⟨by have:=y.out;first|omega|exact Nat.le_refl _⟩,⟨by exact sE g.out⟩,⟨by exact sE r.out⟩,⟨sb⟩⟩)
 replace ao:=zB ao
 subst ao
 rewrite[if_neg zQ]at H
 obtain⟨bb,bA,H⟩:=sO H
 have H':=zM H
 clear H
 go_wp2_with (first|((with_reducible refine gate_callee (f:=64) rfl ?_);refine sC (some 40) Tryd.func64 #[.string (rdOf ByteArray.empty d c)] (spec_IsBlankLine.calls k1 (rdOf ByteArray.empty d c) false _ ba.out) ?_;rintro e w' ⟨rfl,⟨nd,rfl⟩⟩;refine⟨_,rfl,?_⟩)|(go_at_call 65;(with_reducible refine(spec_IsComment.calls (rdOf ByteArray.empty d c) bb _ bA.out).mono ?_);rintro e w' ⟨rfl,⟨nd,rfl⟩⟩))
 go_meet
 case rel=>exact⟨_,(bb),sr,H',⟨by have:=y.out;first|omega|exact Nat.le_refl _⟩,⟨by exact sE g.out⟩,⟨by exact sE r.out⟩,⟨sb⟩⟩)
 case rest=>(
 clear aN
 try clear D
 try clear A
 try clear c9b0
 try clear ae
 try clear c10b0
 try clear bw
 try clear al
 try clear am
 obtain⟨kq,an,rfl,HA,W,g,r,HB⟩:=hcut
 cases kq with
 |zero=>exact absurd HA.out (by simp[spec_LogicalLines.j1])
 |succ kj10=>(
 have H:=HA.out
 clear HA
 simp only[spec_LogicalLines.j1]at H
 by_cases ap:an=true
 ·(
 subst ap
 rewrite[if_pos rfl]at H
 have H':=zM H
 clear H
 go_wp2
 go_roundg kj10
 case measure=>have:=y.out;have:=W.out;omega
 case rel=>exact⟨(a),(wrap64 (c+1)),sr,H',⟨by have:=y.out;have:=W.out;omega⟩,⟨by exact sE g.out⟩,⟨by exact sE r.out⟩,⟨sb⟩⟩)
 replace ap:=zB ap
 subst ap
 rewrite[if_neg zQ]at H
 obtain⟨bB,aq,H⟩:=sO H
 by_cases ar:bB=true
 ·(
 subst ar
 rewrite[if_pos rfl]at H
 by_cases E:(a.length:Int)=0
 ·(
 rw[if_pos E]at H
 have c19b0:((a.length:Int)==0)=true:=zE E
 have c19b1:((a.length:Int) !=0)=false:=zY E
 clear E
 obtain⟨y144,hy144⟩:∃z:List (S88),z=(([]:List (S88))):=⟨_,rfl⟩
 replace H:(some (y144,wrap64 (c+1),2))=some (r1,r2,r3):=by first|(rw[hy144];with_reducible exact H)|(have m:=(Option.bind_some _ _).symm.trans H;rw[hy144];with_reducible exact m)|(have m:=(Option.bind_some _ _).symm.trans H;with_reducible exact m)|with_reducible exact H|(rw[hy144];exact H)|exact H
 have bc:=zM hy144
 clear hy144
 simp only[Option.some.injEq,Prod.mk.injEq]at H
 obtain⟨rfl,rfl,rfl⟩:=H
 go_wp2_with (first|((with_reducible refine gate_callee (f:=66) rfl ?_);refine sC (some 47) Tryd.func66 #[.string (rdOf ByteArray.empty d c)] (spec_IsContinuation.calls (rdOf ByteArray.empty d c) true _ aq.out) ?_;rintro e w' ⟨rfl,⟨nd,rfl⟩⟩;refine⟨_,rfl,?_⟩;obtain⟨cm,cn,bC⟩:=Kd.R_slice g.out;subst bC)|((with_reducible refine gate_dst (N:=51) rfl ?_);refine Kd.R_lit k88 _ 88 ?hg (N:=51) ?hd (xs:=([]:List (S88))) (inner:=[]) (ok:=fun _=>True) (okp:=fun _=>True) ?hr ?hp (fun _ hk=>hk) trivial (Below.refl _ _) (Nat.le_refl _) (by simp) ?_;(case hd=>rfl);(case hg=>rfl);(case hr=>first|(go_simp;done)|(go_simp;rfl));(case hp=>exact(Reps.none _ _));intro co cp X hb J L;clear J L;(first|rw[←bc.out]at X|(simp only[Int.reduceToNat]at X;rw[←bc.out]at X));replace r:=zM (Kd.R_below (sE r.out) hb);have bD:=zM (Kd.R_lower (Kd.R_new' X (Kd.R_lt (sE g.out))) (below_size (sH HB.out)));replace g:=zM (Kd.R_elder' (sE g.out) (Kd.R_base X) hb);replace HB:=sB HB hb;clear hb X))
 go_ret3
 exact⟨_,sq,by(with_reducible repeat(first|apply Kd.R_alloc|apply Kd.R_drewN|apply Kd.R_drew));exact Kd.R_mono bD.out (fun _ hk=>trivial),sb⟩)
 rw[if_neg E]at H
 have c19b0:((a.length:Int)==0)=false:=zN E
 have c19b1:((a.length:Int) !=0)=true:=zX E
 have c19b2:¬(a=[]):=fun M=>E (by rw[M];rfl)
 obtain⟨ji23,hji23⟩:∃j_:Int,(wrap64 ((a.length:Int)- 1))=j_:=⟨_,rfl⟩
 replace H:(if 0≤(ji23)then(if(ji23)<(a.length:Int)then(if 1≤((rdOf ByteArray.empty d c).size:Int)then(if 1+(((rdOf ByteArray.empty d c).extract 1 (rdOf ByteArray.empty d c).size).size)≤9223372036854775807 then(if((rd_T88 a (ji23)).f1).size+(1+(((rdOf ByteArray.empty d c).extract 1 (rdOf ByteArray.empty d c).size).size))≤9223372036854775807 then(spec_LogicalLines.l0 kj10 (a.set ((ji23):Int).toNat (⟨(rd_T88 a (ji23)).f0,((rd_T88 a (ji23)).f1)++((⟨#[32]⟩:ByteArray)++((rdOf ByteArray.empty d c).extract 1 (rdOf ByteArray.empty d c).size))⟩:S88)) d (wrap64 (c+1)))else(none))else(none))else(none))else(none))else(none))=some (r1,r2,r3):=by first|(rw[hji23]at H;exact H)|(simp only[hji23]at H ⊢;exact H)
 (try rw[hji23]at aq)
 have hji23w:(IntKind.i64.wrap ((a.length:Int)- 1))=ji23:=(i64_w _).trans hji23
 by_cases au:0≤(ji23)
 ·(
 rw[if_pos au]at H
 have c24b0:=zT au
 clear au
 by_cases av:(ji23)<(a.length:Int)
 ·(
 rw[if_pos av]at H
 have c25b0:=zT av
 clear av
 by_cases af:1≤((rdOf ByteArray.empty d c).size:Int)
 ·(
 rw[if_pos af]at H
 have c26b0:=eq_true af
 have c26b1:=zT af
 clear af
 by_cases O:1+(((rdOf ByteArray.empty d c).extract 1 (rdOf ByteArray.empty d c).size).size)≤9223372036854775807
 ·(
 rw[if_pos O]at H
 have c27b0:=eq_true O
 have c27b1:=zT O
 try have c27b2:(9223372036854775807<1+(((rdOf ByteArray.empty d c).extract 1 (rdOf ByteArray.empty d c).size).size))=False:=eq_false (Nat.not_lt.2 O)
 try(have c27x:=O;simp only[ByteArray.size_extract]at c27x;have c27b3:=eq_true c27x;have c27b4:=zT c27x;have c27b5:=eq_false (Nat.not_lt.2 c27x))
 try(have c27y:=O;simp only[ByteArray.size_extract,Nat.min_self]at c27y;have c27b6:=eq_false (Nat.not_lt.2 c27y))
 by_cases P:((rd_T88 a (ji23)).f1).size+(1+(((rdOf ByteArray.empty d c).extract 1 (rdOf ByteArray.empty d c).size).size))≤9223372036854775807
 ·(
 rw[if_pos P]at H
 have c28b0:=eq_true P
 have c28b1:=zT P
 try have c28b2:(9223372036854775807<((rd_T88 a (ji23)).f1).size+(1+(((rdOf ByteArray.empty d c).extract 1 (rdOf ByteArray.empty d c).size).size)))=False:=eq_false (Nat.not_lt.2 P)
 try(have c28x:=P;simp only[ByteArray.size_extract]at c28x;have c28b3:=eq_true c28x;have c28b4:=zT c28x;have c28b5:=eq_false (Nat.not_lt.2 c28x))
 try(have c28y:=P;simp only[ByteArray.size_extract,Nat.min_self]at c28y;have c28b6:=eq_false (Nat.not_lt.2 c28y))
 obtain⟨y148,hy148⟩:∃z:List (S88),z=(a.set ((ji23):Int).toNat (⟨(rd_T88 a (ji23)).f0,((rd_T88 a (ji23)).f1)++((⟨#[32]⟩:ByteArray)++((rdOf ByteArray.empty d c).extract 1 (rdOf ByteArray.empty d c).size))⟩:S88)):=⟨_,rfl⟩
 replace H:(spec_LogicalLines.l0 kj10 y148 d (wrap64 (c+1)))=some (r1,r2,r3):=by first|(rw[hy148];with_reducible exact H)|(have m:=(Option.bind_some _ _).symm.trans H;rw[hy148];with_reducible exact m)|(have m:=(Option.bind_some _ _).symm.trans H;with_reducible exact m)|with_reducible exact H|(rw[hy148];exact H)|exact H
 have bE:=zM hy148
 clear hy148
 have H':=zM H
 clear H
 try go_wp2_with (first|((with_reducible refine gate_callee (f:=66) rfl ?_);refine sC (some 47) Tryd.func66 #[.string (rdOf ByteArray.empty d c)] (spec_IsContinuation.calls (rdOf ByteArray.empty d c) true _ aq.out) ?_;rintro e w' ⟨rfl,⟨nd,rfl⟩⟩;refine⟨_,rfl,?_⟩;(try(rw[drewN_self wc];generalize hq_:World.drewN wc _=wc;have F:Aside0 (Kd.R k88 88 wc w.heap.size (fun _=>True) u5 a):=⟨by rw[←hq_];exact(sE g.out)⟩;have G:Aside0 (Kd.R Kd.string 9 wc w.heap.size (fun _=>True) (.slice (some a9) d.length a8) d):=⟨by rw[←hq_];exact(sE r.out)⟩;have I:Aside0 (Below w.heap.size w wc):=⟨by rw[←hq_];exact(sH HB.out)⟩;clear g r HB hq_;have g:=F;have r:=G;have HB:=I;clear F G I));obtain⟨cq,cr,bF⟩:=Kd.R_slice g.out;subst bF))
 replace g:=zM (Kd.R_drew g.out)
 replace r:=zM (Kd.R_drew r.out)
 replace HB:=zM (below_drew1 HB.out)
 have aQ:0≤((ji23):Int):=zzA
 have aR:(ji23)<(a.length:Int):=zzA
 obtain⟨cs,bG,aT,aU⟩:=at_T88 (Kd.R_reads' g.out).2.2 (ji23) aQ aR
 cases bG
 replace aQ:=eq_true aQ
 replace aR:=eq_true aR
 have aV:0≤((ji23):Int):=zzA
 have aW:((ji23):Int)<((a.length:Int):Int):=zzA
 obtain⟨Q,ct,bd,be,bH,cu,bf⟩:=Kd.R_form g.out (by omega)
 (first|cases bd|(injection bd with aw bI bJ;(first|subst aw|(injection aw with aw;subst aw));subst bJ;clear bI))
 have bK:=zM be
 have bg:=zM bf
 clear be bH bf
 (first|simp only[add_plain]at aT|skip)
 (first|simp only[add_plain]at aU|skip)
 obtain⟨cv,bL,bh,aX,aY⟩:=Kd.R_elem g.out z88 ((ji23):Int) aV aW
 obtain rfl:=k88_openM bh
 have bM:World.cell? _ ⟨Q,((ji23):Int).toNat*2,none⟩=some (.int .i64 ((rd_T88 a (ji23)).f0)):=aX 0 _ rfl
 have bO:World.cell? _ ⟨Q,((ji23):Int).toNat*2+1,none⟩=some (.string ((rd_T88 a (ji23)).f1)):=aX 1 _ rfl
 have bP:World.frozen? _ ⟨Q,((ji23):Int).toNat*2,none⟩=false:=aY 0
 have bQ:World.frozen? _ ⟨Q,((ji23):Int).toNat*2+1,none⟩=false:=aY 1
 clear bL aX aY bh
 replace aV:=eq_true aV
 replace aW:=eq_true aW
 obtain⟨cw,bi,bj,bk,bR⟩:=Kd.R_elem g.out z88 ((ji23):Int) (zzA) (by have M:((ji23):Int)<((a.length:Int):Int):=zzA;first|exact M|(have e_:=(Kd.R_reads' g.out).1;omega)|simpa using M)
 obtain rfl:=k88_openM bj
 have aZ:=(Kd.R_seg g.out ((ji23):Int) (zzA) (by have M:((ji23):Int)<((a.length:Int):Int):=zzA;first|exact M|(have e_:=(Kd.R_reads' g.out).1;omega)|simpa using M) (seg:=[.string (((rd_T88 a (ji23)).f1)++((⟨#[32]⟩:ByteArray)++((rdOf ByteArray.empty d c).extract 1 (rdOf ByteArray.empty d c).size)))]) (j:=1) bi bk (show 2≤2 from by decide) (x':=(⟨(rd_T88 a (ji23)).f0,((rd_T88 a (ji23)).f1)++((⟨#[32]⟩:ByteArray)++((rdOf ByteArray.empty d c).extract 1 (rdOf ByteArray.empty d c).size))⟩:S88)) (k88_mkM _ _ _ (⟨(rd_T88 a (ji23)).f0,((rd_T88 a (ji23)).f1)++((⟨#[32]⟩:ByteArray)++((rdOf ByteArray.empty d c).extract 1 (rdOf ByteArray.empty d c).size))⟩:S88)) (fun _ hk=>hk)).1
 rw[←bE.out]at aZ
 have bl:=zM aZ
 clear bi bk bR bj aZ
 refine start_ (n:=12) (S:=fun w'=>w'.cell? ⟨Q,(((ji23)).toNat*2),none⟩=some (.int .i64 ((rd_T88 a (ji23)).f0))∧w'.cell? ⟨Q,(((ji23)).toNat*2)+1,none⟩=some (.string ((rd_T88 a (ji23)).f1))) (ds:=[11]) #[false,false,false,false,false,false,false,false,false,false,false,false] (by kernel_rfl) rfl rfl ⟨aT,aU⟩ (fun hHeld=>?_);refine with_tabW spec_LogicalLines.tab15 spec_LogicalLines.bits15 (fun l ax=>?_)
 generalize wc.drew=w31 at g r HB bg bl bP bQ aT aU bM bO hHeld ⊢
 refine pure_ (i:=0) (N:=some 57) (v:=?_) (a':=?_) (bN 12 1) rfl rfl (any_of l.out (by kernel_rfl)) (fun _ _ _ h=>h) (Or.inl ⟨by rfl,?_⟩) ?_ ?_
 rotate_left
 ·(
 intro w'
 go_simp
 with_reducible rfl)
 rotate_left
 ·(
 simp only[zP,i64_w,i32_w]
 rfl)
 refine pure_ (i:=1) (N:=some 58) (v:=?_) (a':=?_) (bN 12 3) rfl rfl (any_of l.out (by kernel_rfl)) (fun _ _ _ h=>h) (Or.inl ⟨by rfl,?_⟩) ?_ ?_
 rotate_left
 ·(
 intro w'
 go_simp
 with_reducible rfl)
 rotate_left
 ·(
 simp only[zP,i64_w,i32_w]
 rfl)
 refine pure_ (i:=2) (N:=some 59) (v:=?_) (a':=?_) (bN 12 7) rfl rfl (any_of l.out (by kernel_rfl)) (fun _ _ _ h=>h) (Or.inl ⟨by rfl,?_⟩) ?_ ?_
 rotate_left
 ·(
 intro w'
 go_simp
 with_reducible rfl)
 rotate_left
 ·(
 simp only[zP,i64_w,i32_w]
 rfl)
 refine pure_ (i:=3) (N:=some 60) (v:=?_) (a':=?_) (bN 12 15) rfl rfl (any_of l.out (by kernel_rfl)) (fun _ _ _ h=>h) (Or.inl ⟨by rfl,?_⟩) ?_ ?_
 rotate_left
 ·(
 intro w'
 go_simp
 with_reducible rfl)
 rotate_left
 ·(
 simp only[zP,i64_w,i32_w]
 rfl)
 refine pure_ (i:=5) (N:=some 62) (v:=?_) (a':=?_) (bN 12 47) rfl rfl (any_of l.out (by kernel_rfl)) (fun _ _ _ h=>h) (Or.inl ⟨by rfl,?_⟩) ?_ ?_
 rotate_left
 ·(
 intro w'
 go_simp
 with_reducible rfl)
 rotate_left
 ·(
 simp only[zP,i64_w,i32_w]
 rfl)
 refine pure_ (i:=6) (N:=some 63) (v:=?_) (a':=?_) (bN 12 111) rfl rfl (any_of l.out (by kernel_rfl)) (fun _ _ _ h=>h) (Or.inl ⟨by rfl,?_⟩) ?_ ?_
 rotate_left
 ·(
 intro w'
 go_simp
 with_reducible rfl)
 rotate_left
 ·(
 simp only[zP,i64_w,i32_w]
 rfl)
 refine pure_ (i:=7) (N:=some 64) (v:=?_) (a':=?_) (bN 12 239) rfl rfl (any_of l.out (by kernel_rfl)) (fun _ _ _ h=>h) (Or.inl ⟨by rfl,?_⟩) ?_ ?_
 rotate_left
 ·(
 intro w'
 go_simp
 with_reducible rfl)
 rotate_left
 ·(
 simp only[zP,i64_w,i32_w]
 rfl)
 refine take_ (i:=4) (N:=some 61) (v:=?_) (a':=?_) (bN 12 255) rfl rfl (take_ofW l.out ax.out (by kernel_rfl)) (fun _ _ _ h=>h) (Or.inl ⟨by rfl,?_⟩) hHeld ?_ ?_
 rotate_left
 ·(
 rintro w' ⟨s0,s1⟩
 go_simp
 with_reducible rfl)
 rotate_left
 ·(
 simp only[zP,i64_w,i32_w]
 rfl)
 refine pure_ (i:=8) (N:=some 65) (v:=?_) (a':=?_) (bN 12 511) rfl rfl (any_of l.out (by kernel_rfl)) (fun _ _ _ h=>h) (Or.inl ⟨by rfl,?_⟩) ?_ ?_
 rotate_left
 ·(
 intro w'
 go_simp
 with_reducible rfl)
 rotate_left
 ·(
 simp only[zP,i64_w,i32_w]
 rfl)
 refine pure_ (i:=9) (N:=some 66) (v:=?_) (a':=?_) (bN 12 1023) rfl rfl (any_of l.out (by kernel_rfl)) (fun _ _ _ h=>h) (Or.inl ⟨by rfl,?_⟩) ?_ ?_
 rotate_left
 ·(
 intro w'
 go_simp
 with_reducible rfl)
 rotate_left
 ·(
 simp only[zP,i64_w,i32_w]
 rfl)
 refine pure_ (i:=10) (N:=some 67) (v:=?_) (a':=?_) (bN 12 2047) rfl rfl (any_of l.out (by kernel_rfl)) (fun _ _ _ h=>h) (Or.inl ⟨by rfl,?_⟩) ?_ ?_
 rotate_left
 ·(
 intro w'
 go_simp
 with_reducible rfl)
 rotate_left
 ·(
 simp only[zP,i64_w,i32_w]
 rfl)
 refine last_ (i:=11) (N:=none) (bN 12 4095) rfl rfl (one_of l.out (by kernel_rfl)) (by decide) (fun K hK=>?_)
 refine skip_ (w1:=?_) (by rfl) rfl ?_ ?_
 rotate_left
 ·(
 go_simp
 rfl)
 refine hK.out _ _ ?_
 clear hK K
 refine done_ (done_of l.out (by kernel_rfl)) ?_
 try go_wp2
 go_roundg kj10
 case measure=>have:=y.out;have:=W.out;omega
 case rel=>exact⟨(y148),(wrap64 (c+1)),sr,H',⟨by have:=y.out;have:=W.out;omega⟩,⟨by(with_reducible repeat(first|apply Kd.R_alloc|apply Kd.R_drewN|apply Kd.R_drew));exact bl.out⟩,⟨by(with_reducible repeat(first|apply Kd.R_alloc|apply Kd.R_drewN|apply Kd.R_drew));exact Kd.R_mono (Kd.R_far (p:=⟨Q,((ji23):Int).toNat*2+1,none⟩) (Kd.R_types r.out bg.out (by decide)) (fun _ hk=>hk.2) (.string (((rd_T88 a (ji23)).f1)++((⟨#[32]⟩:ByteArray)++((rdOf ByteArray.empty d c).extract 1 (rdOf ByteArray.empty d c).size))))) (fun _ hk=>trivial)⟩,⟨by repeat(first|(with_reducible first|exact HB.out|apply below_alloc|apply pw_below_drewN|apply below_drew1|refine below_set ?_ bK.out)|exact HB.out)⟩⟩)
 rw[if_neg P]at H
 exact absurd H (by simp))
 rw[if_neg O]at H
 exact absurd H (by simp))
 rw[if_neg af]at H
 exact absurd H (by simp))
 rw[if_neg av]at H
 exact absurd H (by simp))
 rw[if_neg au]at H
 exact absurd H (by simp))
 replace ar:=zB ar
 subst ar
 rewrite[if_neg zQ]at H
 by_cases ay:a.length<5864062014805
 ·(
 rw[if_pos ay]at H
 have bS:=zM ay
 clear ay
 obtain⟨y149,hy149⟩:∃z:List (S88),z=(a++[(⟨wrap64 (c+1),(rdOf ByteArray.empty d c)⟩:S88)]):=⟨_,rfl⟩
 replace H:(spec_LogicalLines.l0 kj10 y149 d (wrap64 (c+1)))=some (r1,r2,r3):=by first|(rw[hy149];with_reducible exact H)|(have m:=(Option.bind_some _ _).symm.trans H;rw[hy149];with_reducible exact m)|(have m:=(Option.bind_some _ _).symm.trans H;with_reducible exact m)|with_reducible exact H|(rw[hy149];exact H)|exact H
 have bT:=zM hy149
 clear hy149
 have H':=zM H
 clear H
 go_wp2_with (first|((with_reducible refine gate_callee (f:=66) rfl ?_);refine sC (some 47) Tryd.func66 #[.string (rdOf ByteArray.empty d c)] (spec_IsContinuation.calls (rdOf ByteArray.empty d c) false _ aq.out) ?_;rintro e w' ⟨rfl,⟨nd,rfl⟩⟩;refine⟨_,rfl,?_⟩)|((with_reducible refine gate_builtin (b:= .append) (xs:= #[.tmp 31,.tmp 36]) rfl ?_);at_builtin;refine Kd.R_append k88 (w0:=w) w.heap.size rfl (.tmp 31) (.tmp 36) 46 88 (.agg #[(.int .i64 0),(.string ⟨#[]⟩)]) 24 rfl Tryd.underlying46 info88 rfl (by decide) (by omega) u5 a (⟨wrap64 (c+1),(rdOf ByteArray.empty d c)⟩:S88) [.int .i64 (wrap64 (c+1)),.string (rdOf ByteArray.empty d c)] (fun _=>True) (fun _=>False) rfl rfl ?aP (fun _ hk=>hk.elim) ?aF ?aO ?aB ?aS ?aL ?_;(case aP=>exact k88_mkM _ _ _ (⟨wrap64 (c+1),(rdOf ByteArray.empty d c)⟩:S88));(case aB=>exact(sH HB.out));(case aF=>exact(fun _ _=>trivial));(case aO=>exact(sE g.out));(case aS=>exact(below_size (sH HB.out)));(case aL=>have:=bS.out;omega);intro cx cy ho hb hg hat;rw[←bT.out]at ho;replace r:=zM (Kd.R_over' (sE r.out) (Kd.R_typed (sE g.out)) (by decide) hg);replace HB:=zM (hb);have bU:=zM (ho);clear g;clear ho hb hg hat))
 go_roundg kj10
 case measure=>have:=y.out;have:=W.out;omega
 case rel=>exact⟨(y149),(wrap64 (c+1)),sr,H',⟨by have:=y.out;have:=W.out;omega⟩,⟨by exact sE bU.out⟩,⟨by exact sE r.out⟩,⟨sb⟩⟩)
 rw[if_neg ay]at H
 exact absurd H (by simp))))
 rw[if_neg ae]at H
 exact absurd H (by simp))
 rw[if_neg A]at H
 have c9b0:=zF A
 clear A
 obtain⟨y152,hy152⟩:∃z:List (S88),z=(([]:List (S88))):=⟨_,rfl⟩
 replace H:(spec_LogicalLines.l1 k1 a y152 0)=some (r1,r2,r3):=by first|(rw[hy152];with_reducible exact H)|(have m:=(Option.bind_some _ _).symm.trans H;rw[hy152];with_reducible exact m)|(have m:=(Option.bind_some _ _).symm.trans H;with_reducible exact m)|with_reducible exact H|(rw[hy152];exact H)|exact H
 have bm:=zM hy152
 clear hy152
 have H':=zM H
 clear H
 obtain⟨cz,cA,bV⟩:=Kd.R_slice r.out
 subst bV
 go_wp2_with (first|((with_reducible refine gate_dst (N:=68) rfl ?_);refine Kd.R_lit k88 _ 88 ?hg (N:=68) ?hd (xs:=([]:List (S88))) (inner:=[]) (ok:=fun _=>True) (okp:=fun _=>True) ?hr ?hp (fun _ hk=>hk) trivial (Below.refl _ _) (Nat.le_refl _) (by simp) ?_;(case hd=>rfl);(case hg=>rfl);(case hr=>first|(go_simp;done)|(go_simp;rfl));(case hp=>exact(Reps.none _ _));intro cB cC Y hb J L;clear J L;(first|rw[←bm.out]at Y|(simp only[Int.reduceToNat]at Y;rw[←bm.out]at Y));replace r:=zM (Kd.R_below (sE r.out) hb);have bW:=zM (Kd.R_lower (Kd.R_new' Y (Kd.R_lt (sE g.out))) (below_size (sH HB.out)));replace g:=zM (Kd.R_elder' (sE g.out) (Kd.R_base Y) hb);replace HB:=sB HB hb;clear hb Y))
 go_loopg [10,11] k1 (fun kq ag bX w'=>∃(az:List (S88)) (o:Int),bX= .int .i64 o∧Aside0 (spec_LogicalLines.l1 kq a az o=some (r1,r2,r3))∧Aside0 (kq≤k1)∧Aside0 (Kd.R k88 88 w' w.heap.size (fun x=>some x≠(ag:Value).ownBlock) u5 a)∧Aside0 (Kd.R k88 88 w' w.heap.size (fun x=>some x≠(u5:Value).ownBlock) ag az)∧Aside0 (Below w.heap.size w w'))
 case atStart=>exact⟨(y152),(0),sr,H',⟨Nat.le_refl _⟩,⟨by(with_reducible repeat(first|apply Kd.R_alloc|apply Kd.R_drewN|apply Kd.R_drew));exact Kd.R_mono g.out (fun _ hk=>hk.2)⟩,⟨by(with_reducible repeat(first|apply Kd.R_alloc|apply Kd.R_drewN|apply Kd.R_drew));exact Kd.R_mono bW.out (fun _ hk=>hk.2)⟩,⟨sb⟩⟩
 case round=>(
 clear H'
 try clear D
 try clear A
 try clear c9b0
 obtain⟨az,o,rfl,HA,Z,g,u,HB⟩:=hrel
 cases gk with
 |zero=>exact absurd HA.out (by simp[spec_LogicalLines.l1])
 |succ k2=>(
 have H:=HA.out
 clear HA
 simp only[spec_LogicalLines.l1]at H
 by_cases T:o<(a.length:Int)
 ·(
 rw[if_pos T]at H
 have c38b0:=zT T
 clear T
 by_cases ah:0≤o
 ·(
 rw[if_pos ah]at H
 have c39b0:=zT ah
 clear ah
 obtain⟨s,bY,H⟩:=sO H
 have H':=zM H
 clear H
 obtain⟨cD,ai,bZ⟩:=Kd.R_slice g.out
 subst bZ
 have aA:0≤(o:Int):=zzA
 have aC:o<(a.length:Int):=zzA
 obtain⟨B,b0,b1,b2⟩:=at_T88 (Kd.R_reads' g.out).2.2 o aA aC
 cases b0
 replace aA:=eq_true aA
 replace aC:=eq_true aC
 go_wp2_with (first|((with_reducible refine gate_callee (f:=67) rfl ?_);refine sC (some 80) Tryd.func67 #[.string ((rd_T88 a o).f1)] (spec_SplitStatements.calls k2 ((rd_T88 a o).f1) s _ bY.out) ?_;rintro e cE ⟨b3,rfl,ad,hb⟩;refine⟨_,rfl,?_⟩;replace g:=zM (Kd.R_below (sE g.out) hb);replace u:=zM (Kd.R_below (sE u.out) hb);have b4:=zM (Kd.R_lower ad (below_size (sH HB.out)));replace HB:=sB HB hb;(try clear hb);(try clear ad)))
 go_loopg [10,13] k2 (fun kq ag b5 w'=>∃(C:List (S88)) (q:Int),b5= .int .i64 q∧Aside0 (spec_LogicalLines.l2 kq a C o s q=some (r1,r2,r3))∧Aside0 (kq≤k2)∧Aside0 (Kd.R k88 88 w' w.heap.size (fun x=>some x≠(ag:Value).ownBlock) (.slice (some B) a.length ai) a)∧Aside0 (Kd.R k88 88 w' w.heap.size (fun x=>some x≠((.slice (some B) a.length ai):Value).ownBlock) ag C)∧Aside0 (Kd.R Kd.string 9 w' w.heap.size (fun _=>True) b3 s)∧Aside0 (Below w.heap.size w w'))
 case atStart=>exact⟨(az),(0),sr,H',⟨Nat.le_refl _⟩,⟨by exact sE g.out⟩,⟨by exact sE u.out⟩,⟨by exact sE b4.out⟩,⟨sb⟩⟩
 case round=>(
 clear H'
 try clear D
 try clear A
 try clear c9b0
 try clear T
 try clear c38b0
 try clear ah
 try clear c39b0
 try clear b1
 try clear b2
 try clear aA
 try clear aC
 obtain⟨C,q,rfl,HA,aa,g,u,t,HB⟩:=hrel
 cases gk with
 |zero=>exact absurd HA.out (by simp[spec_LogicalLines.l2])
 |succ k3=>(
 have H:=HA.out
 clear HA
 simp only[spec_LogicalLines.l2]at H
 by_cases ab:q<(s.length:Int)
 ·(
 rw[if_pos ab]at H
 have c43b0:=zT ab
 clear ab
 by_cases aD:0≤q
 ·(
 rw[if_pos aD]at H
 have c44b0:=zT aD
 clear aD
 obtain⟨b6,bn,H⟩:=sO H
 by_cases aE:b6=true
 ·(
 subst aE
 rewrite[if_pos rfl]at H
 have H':=zM H
 clear H
 obtain⟨cF,cG,b7⟩:=Kd.R_slice t.out
 subst b7
 have U:0≤(q:Int):=zzA
 have V:q<(s.length:Int):=zzA
 obtain⟨aG,a1,b8⟩:=Kd.at_string (Kd.R_reads' t.out).2.2 q U V
 cases a1
 replace U:=eq_true U
 replace V:=eq_true V
 go_wp2_with (first|((with_reducible refine gate_callee (f:=64) rfl ?_);refine sC (some 91) Tryd.func64 #[.string (rdOf ByteArray.empty s q)] (spec_IsBlankLine.calls k3 (rdOf ByteArray.empty s q) true _ bn.out) ?_;rintro e w' ⟨rfl,⟨nd,rfl⟩⟩;refine⟨_,rfl,?_⟩))
 go_roundg k3
 case measure=>have:=y.out;have:=Z.out;have:=aa.out;omega
 case rel=>exact⟨(C),(wrap64 (q+1)),sr,H',⟨by have:=y.out;have:=Z.out;have:=aa.out;omega⟩,⟨by exact sE g.out⟩,⟨by exact sE u.out⟩,⟨by exact sE t.out⟩,⟨sb⟩⟩)
 replace aE:=zB aE
 subst aE
 rewrite[if_neg zQ]at H
 by_cases aH:0≤o
 ·(
 rw[if_pos aH]at H
 have c48b0:=zT aH
 clear aH
 by_cases aI:o<(a.length:Int)
 ·(
 rw[if_pos aI]at H
 have c49b0:=zT aI
 clear aI
 by_cases aJ:C.length<5864062014805
 ·(
 rw[if_pos aJ]at H
 have b9:=zM aJ
 clear aJ
 obtain⟨y163,hy163⟩:∃z:List (S88),z=(C++[(⟨(rd_T88 a o).f0,rdOf ByteArray.empty s q⟩:S88)]):=⟨_,rfl⟩
 replace H:(spec_LogicalLines.l2 k3 a y163 o s (wrap64 (q+1)))=some (r1,r2,r3):=by first|(rw[hy163];with_reducible exact H)|(have m:=(Option.bind_some _ _).symm.trans H;rw[hy163];with_reducible exact m)|(have m:=(Option.bind_some _ _).symm.trans H;with_reducible exact m)|with_reducible exact H|(rw[hy163];exact H)|exact H
 have ca:=zM hy163
 clear hy163
 have H':=zM H
 clear H
 obtain⟨cH,cb,cc⟩:=Kd.R_slice t.out
 subst cc
 have U:0≤(q:Int):=zzA
 have V:q<(s.length:Int):=zzA
 obtain⟨aG,a1,b8⟩:=Kd.at_string (Kd.R_reads' t.out).2.2 q U V
 cases a1
 replace U:=eq_true U
 replace V:=eq_true V
 try go_wp2_with (first|((with_reducible refine gate_callee (f:=64) rfl ?_);refine sC (some 91) Tryd.func64 #[.string (rdOf ByteArray.empty s q)] (spec_IsBlankLine.calls k3 (rdOf ByteArray.empty s q) false _ bn.out) ?_;rintro e w' ⟨rfl,⟨nd,rfl⟩⟩;refine⟨_,rfl,?_⟩))
 (try(rw[drewN_self wr];generalize hq_:World.drewN wr _=wr;have F:Aside0 (Kd.R k88 88 wr w.heap.size (fun x=>some x≠(.slice (some B) a.length ai:Value).ownBlock) u10 C):=⟨by rw[←hq_];exact(sE u.out)⟩;have G:Aside0 (Kd.R Kd.string 9 wr w.heap.size (fun _=>True) (.slice (some aG) s.length cb) s):=⟨by rw[←hq_];exact(sE t.out)⟩;have I:Aside0 (Kd.R k88 88 wr w.heap.size (fun x=>some x≠(u10:Value).ownBlock) (.slice (some B) a.length ai) a):=⟨by rw[←hq_];exact(sE g.out)⟩;have aj:Aside0 (Below w.heap.size w wr):=⟨by rw[←hq_];exact(sH HB.out)⟩;clear u t g HB hq_;have u:=F;have t:=G;have g:=I;have HB:=aj;clear F G I aj))
 replace g:=zM (Kd.R_drew g.out)
 replace u:=zM (Kd.R_drew u.out)
 replace t:=zM (Kd.R_drew t.out)
 replace HB:=zM (below_drew1 HB.out)
 have a2:0≤(o:Int):=zzA
 have a3:o<(a.length:Int):=zzA
 obtain⟨ad161,cd,bo,bp⟩:=at_T88 (Kd.R_reads' g.out).2.2 o a2 a3
 obtain rfl:B=ad161:=(by injection cd)
 replace a2:=eq_true a2
 replace a3:=eq_true a3
 have a4:0≤(q:Int):=zzA
 have a5:q<(s.length:Int):=zzA
 obtain⟨ad162,ce,bq⟩:=Kd.at_string (Kd.R_reads' t.out).2.2 q a4 a5
 obtain rfl:aG=ad162:=(by injection ce)
 replace a4:=eq_true a4
 replace a5:=eq_true a5
 refine start_ (n:=14) (S:=fun w'=>w'.cell? (B.add ((o).toNat*2))=some (.int .i64 ((rd_T88 a o).f0))∧w'.cell? ⟨(B.add ((o).toNat*2)).block,(B.add ((o).toNat*2)).off+1,none⟩=some (.string ((rd_T88 a o).f1))∧w'.cell? (aG.add (q).toNat)=some (.string (rdOf ByteArray.empty s q))) (ds:=[11,12]) #[false,false,false,false,false,false,false,false,false,false,false,false,false,false] (by kernel_rfl) rfl rfl ⟨bo,bp,bq⟩ (fun hHeld=>?_);refine with_tabW spec_LogicalLines.tab25 spec_LogicalLines.bits25 (fun l ax=>?_)
 generalize wr.drew=w52 at g u t HB bo bp bq hHeld ⊢
 refine pure_ (i:=0) (N:=some 93) (v:=?_) (a':=?_) (bN 14 1) rfl rfl (any_of l.out (by kernel_rfl)) (fun _ _ _ h=>h) (Or.inl ⟨by rfl,?_⟩) ?_ ?_
 rotate_left
 ·(
 intro w'
 go_simp
 with_reducible rfl)
 rotate_left
 ·(
 simp only[zP,i64_w,i32_w]
 rfl)
 refine pure_ (i:=1) (N:=some 94) (v:=?_) (a':=?_) (bN 14 3) rfl rfl (any_of l.out (by kernel_rfl)) (fun _ _ _ h=>h) (Or.inl ⟨by rfl,?_⟩) ?_ ?_
 rotate_left
 ·(
 intro w'
 go_simp
 with_reducible rfl)
 rotate_left
 ·(
 simp only[zP,i64_w,i32_w]
 rfl)
 refine pure_ (i:=2) (N:=some 95) (v:=?_) (a':=?_) (bN 14 7) rfl rfl (any_of l.out (by kernel_rfl)) (fun _ _ _ h=>h) (Or.inl ⟨by rfl,?_⟩) ?_ ?_
 rotate_left
 ·(
 intro w'
 go_simp
 with_reducible rfl)
 rotate_left
 ·(
 simp only[zP,i64_w,i32_w]
 rfl)
 refine pure_ (i:=3) (N:=some 96) (v:=?_) (a':=?_) (bN 14 15) rfl rfl (any_of l.out (by kernel_rfl)) (fun _ _ _ h=>h) (Or.inl ⟨by rfl,?_⟩) ?_ ?_
 rotate_left
 ·(
 intro w'
 go_simp
 with_reducible rfl)
 rotate_left
 ·(
 simp only[zP,i64_w,i32_w]
 rfl)
 refine pure_ (i:=4) (N:=some 97) (v:=?_) (a':=?_) (bN 14 31) rfl rfl (any_of l.out (by kernel_rfl)) (fun _ _ _ h=>h) (Or.inl ⟨by rfl,?_⟩) ?_ ?_
 rotate_left
 ·(
 intro w'
 go_simp
 with_reducible rfl)
 rotate_left
 ·(
 simp only[zP,i64_w,i32_w]
 rfl)
 refine pure_ (i:=6) (N:=some 99) (v:=?_) (a':=?_) (bN 14 95) rfl rfl (any_of l.out (by kernel_rfl)) (fun _ _ _ h=>h) (Or.inl ⟨by rfl,?_⟩) ?_ ?_
 rotate_left
 ·(
 intro w'
 go_simp
 with_reducible rfl)
 rotate_left
 ·(
 simp only[zP,i64_w,i32_w]
 rfl)
 refine pure_ (i:=7) (N:=some 100) (v:=?_) (a':=?_) (bN 14 223) rfl rfl (any_of l.out (by kernel_rfl)) (fun _ _ _ h=>h) (Or.inl ⟨by rfl,?_⟩) ?_ ?_
 rotate_left
 ·(
 intro w'
 go_simp
 with_reducible rfl)
 rotate_left
 ·(
 simp only[zP,i64_w,i32_w]
 rfl)
 refine pure_ (i:=8) (N:=some 101) (v:=?_) (a':=?_) (bN 14 479) rfl rfl (any_of l.out (by kernel_rfl)) (fun _ _ _ h=>h) (Or.inl ⟨by rfl,?_⟩) ?_ ?_
 rotate_left
 ·(
 intro w'
 go_simp
 with_reducible rfl)
 rotate_left
 ·(
 simp only[zP,i64_w,i32_w]
 rfl)
 refine take_ (i:=5) (N:=some 98) (v:=?_) (a':=?_) (bN 14 511) rfl rfl (take_ofW l.out ax.out (by kernel_rfl)) (fun _ _ _ h=>h) (Or.inl ⟨by rfl,?_⟩) hHeld ?_ ?_
 rotate_left
 ·(
 rintro w' ⟨s0,s1,s2⟩
 go_simp
 with_reducible rfl)
 rotate_left
 ·(
 simp only[zP,i64_w,i32_w]
 rfl)
 refine take_ (i:=9) (N:=some 102) (v:=?_) (a':=?_) (bN 14 1023) rfl rfl (take_ofW l.out ax.out (by kernel_rfl)) (fun _ _ _ h=>h) (Or.inl ⟨by rfl,?_⟩) hHeld ?_ ?_
 rotate_left
 ·(
 rintro w' ⟨s0,s1,s2⟩
 go_simp
 with_reducible rfl)
 rotate_left
 ·(
 simp only[zP,i64_w,i32_w]
 rfl)
 refine pure_ (i:=10) (N:=some 103) (v:=?_) (a':=?_) (bN 14 2047) rfl rfl (any_of l.out (by kernel_rfl)) (fun _ _ _ h=>h) (Or.inl ⟨by rfl,?_⟩) ?_ ?_
 rotate_left
 ·(
 intro w'
 go_simp
 with_reducible rfl)
 rotate_left
 ·(
 simp only[zP,i64_w,i32_w]
 rfl)
 refine last_ (i:=11) (N:=some 104) (bN 14 4095) rfl rfl (one_of l.out (by kernel_rfl)) (by decide) (fun K hK=>?_)
 refine value_ (w1:=?_) (v:=?_) (by rfl) rfl ?_ ?_
 rotate_left 2
 ·(
 go_simp
 constructor
 ·rfl
 ·rfl)
 refine hK.out _ _ ?_
 clear hK K
 refine norm_ (a':=?_) ?_ ?_
 rotate_left
 ·(
 show Act.put _ (some 104) _=_
 simp only[zP,i64_w,i32_w]
 rfl)
 refine last_ (i:=12) (N:=some 105) (bN 14 8191) rfl rfl (one_of l.out (by kernel_rfl)) (by decide) (fun K hK=>?_)
 refine Kd.R_append_step k88 (w0:=w) w.heap.size (by rfl) (.tmp 93) (.tmp 104) 46 88 (.agg #[(.int .i64 0),(.string ⟨#[]⟩)]) 24 rfl Tryd.underlying46 info88 rfl (by decide) (by omega) u10 C (⟨(rd_T88 a o).f0,rdOf ByteArray.empty s q⟩:S88) [.int .i64 ((rd_T88 a o).f0),.string (rdOf ByteArray.empty s q)] (fun x=>some x≠(.slice (some B) a.length ai:Value).ownBlock) (fun _=>False) rfl rfl ?aP (fun _ hk=>hk.elim) ?aF ?aO ?aB ?aS ?aL ?_
 (case aP=>exact k88_mkM _ _ _ (⟨(rd_T88 a o).f0,rdOf ByteArray.empty s q⟩:S88))
 (case aB=>exact(sH HB.out))
 (case aF=>exact(fun x hk=>Kd.fresh' (Kd.R_lt (sE g.out)) x hk))
 (case aO=>exact(sE u.out))
 (case aS=>exact(below_size (sH HB.out)))
 (case aL=>have:=b9.out;omega)
 intro cI cJ ho hb hg hat
 rw[←ca.out]at ho
 have F:=zM (Kd.R_after (ok:=(fun _=>True)) (by(with_reducible repeat(first|apply Kd.R_alloc|apply Kd.R_drewN|apply Kd.R_drew));exact Kd.R_mono g.out (fun _ hk=>⟨trivial,hk⟩)) hg hat)
 have G:=zM (Kd.R_over' (sE t.out) (Kd.R_typed (sE u.out)) (by decide) hg)
 have I:=zM (hb)
 have aj:=zM (ho)
 clear g
 clear t
 clear HB
 clear u
 have g:=F
 have t:=G
 have HB:=I
 have cf:=aj
 clear F G I aj
 clear ho hb hg hat
 refine hK.out _ _ ?_
 clear hK K
 refine norm_ (a':=?_) ?_ ?_
 rotate_left
 ·(
 show Act.put _ (some 105) _=_
 simp only[zP,i64_w,i32_w]
 rfl)
 refine pure_ (i:=13) (N:=some 10) (v:=?_) (a':=?_) (bN 14 16383) rfl rfl (any_of l.out (by kernel_rfl)) (fun _ _ _ h=>h) (Or.inl ⟨by rfl,?_⟩) ?_ ?_
 rotate_left
 ·(
 intro w'
 go_simp
 with_reducible rfl)
 rotate_left
 ·(
 simp only[zP,i64_w,i32_w]
 rfl)
 refine done_ (done_of l.out (by kernel_rfl)) ?_
 try go_wp2
 go_roundg k3
 case measure=>have:=y.out;have:=Z.out;have:=aa.out;omega
 case rel=>exact⟨(y163),(wrap64 (q+1)),sr,H',⟨by have:=y.out;have:=Z.out;have:=aa.out;omega⟩,⟨by(with_reducible repeat(first|apply Kd.R_alloc|apply Kd.R_drewN|apply Kd.R_drew));exact Kd.R_mono g.out (fun _ hk=>hk.2)⟩,⟨by exact sE cf.out⟩,⟨by exact sE t.out⟩,⟨sb⟩⟩)
 rw[if_neg aJ]at H
 exact absurd H (by simp))
 rw[if_neg aI]at H
 exact absurd H (by simp))
 rw[if_neg aH]at H
 exact absurd H (by simp))
 rw[if_neg aD]at H
 exact absurd H (by simp))
 rw[if_neg ab]at H
 have c43b0:=zF ab
 clear ab
 have H':=zM H
 clear H
 obtain⟨cK,cL,cg⟩:=Kd.R_slice t.out
 subst cg
 go_wp2
 go_roundg k3
 case measure=>have:=y.out;have:=Z.out;have:=aa.out;omega
 case rel=>exact⟨(C),(wrap64 (o+1)),sr,H',⟨by have:=y.out;have:=Z.out;have:=aa.out;omega⟩,⟨by exact sE g.out⟩,⟨by exact sE u.out⟩,⟨sb⟩⟩)))
 rw[if_neg ah]at H
 exact absurd H (by simp))
 rw[if_neg T]at H
 have c38b0:=zF T
 clear T
 simp only[Option.some.injEq,Prod.mk.injEq]at H
 obtain⟨rfl,rfl,rfl⟩:=H
 obtain⟨cM,cN,ch⟩:=Kd.R_slice g.out
 subst ch
 go_wp2
 go_ret3
 exact⟨_,sq,by(with_reducible repeat(first|apply Kd.R_alloc|apply Kd.R_drewN|apply Kd.R_drew));exact Kd.R_mono u.out (fun _ hk=>trivial),sb⟩)))))
 replace D:=zB D
 subst D
 rewrite[if_neg zQ]at H
 obtain⟨y131,hy131⟩:∃z:List (S88),z=(([]:List (S88))):=⟨_,rfl⟩
 replace H:(some (y131,0,1))=some (r1,r2,r3):=by first|(rw[hy131];with_reducible exact H)|(have m:=(Option.bind_some _ _).symm.trans H;rw[hy131];with_reducible exact m)|(have m:=(Option.bind_some _ _).symm.trans H;with_reducible exact m)|with_reducible exact H|(rw[hy131];exact H)|exact H
 have br:=zM hy131
 clear hy131
 simp only[Option.some.injEq,Prod.mk.injEq]at H
 obtain⟨rfl,rfl,rfl⟩:=H
 go_enter Tryd.func24,Tryd.ntmps24
 go_wp2_with (first|((with_reducible refine gate_callee (f:=62) rfl ?_);refine sC (some 15) Tryd.func62 #[.string a0] (spec_ValidSource.calls k a0 false _ A2.out) ?_;rintro e cO ⟨rfl,hb⟩;refine⟨_,rfl,?_⟩;replace HB:=sB HB hb;(try clear hb))|((with_reducible refine gate_dst (N:=17) rfl ?_);refine Kd.R_lit k88 _ 88 ?hg (N:=17) ?hd (xs:=([]:List (S88))) (inner:=[]) (ok:=fun _=>True) (okp:=fun _=>True) ?hr ?hp (fun _ hk=>hk) trivial (Below.refl _ _) (Nat.le_refl _) (by simp) ?_;(case hd=>rfl);(case hg=>rfl);(case hr=>first|(go_simp;done)|(go_simp;rfl));(case hp=>exact(Reps.none _ _));intro cP cQ ak hb J L;clear J L;(first|rw[←br.out]at ak|(simp only[Int.reduceToNat]at ak;rw[←br.out]at ak));have ci:=zM (Kd.R_lower ak (below_size (sH HB.out)));replace HB:=sB HB hb;clear hb ak))
 go_ret3
 exact⟨_,sq,by exact sE ci.out,sb⟩
end Go.Proofs.YtjmojijopammjaaDoor.PFnExactLogicalLines
