/- Printed functions: spec_l07Ok. -/
import Derived.Test.YtengilknjiobiaaYPoP0
import Derived.Test.YtengilknjiobiaaYPoP4
import Derived.Test.YtengilknjiobiaaYPoP8
import Derived.Test.YtengilknjiobiaaYPoP10
namespace Go.Proofs.Ytengilknjiobiaa.PFnExactPairsOf
open Go.RowKit Go.Proofs.YtengilknjiobiaaG Go.Proofs.YtengilknjiobiaaW.PrintWords Go.Proofs.YtengilknjiobiaaW.PrintLast Go.Proofs.YtengilknjiobiaaW.PrintMore
attribute [local go_sem] max2_int min2_int max_two min_two max_three min_three max_four min_four
set_option linter.unusedVariables false
set_option linter.unusedSimpArgs false
mutual
def spec_l07Ok.j0 : Nat → List (S34) → Bool → Option (Bool)
 |0,_,_=>none
 |k+1,x0,x19=>if x19=true then(some false)else(spec_l07Ok.l0 k x0 0)
def spec_l07Ok.l0 : Nat → List (S34) → Int → Option (Bool)
 |0,_,_=>none
 |k+1,x0,x3=>if 0<(x0.length:Int)then(if x3<(((rd_T34 x0 0).f1).length:Int)then(if 0≤x3 then((spec_l07Object.f k ((rd_T56 ((rd_T34 x0 0).f1) x3).f0) ((rd_T56 ((rd_T34 x0 0).f1) x3).f1) ((rd_T56 ((rd_T34 x0 0).f1) x3).f2) ((rd_T56 ((rd_T34 x0 0).f1) x3).f3) ((rd_T56 ((rd_T34 x0 0).f1) x3).f4) ((rd_T56 ((rd_T34 x0 0).f1) x3).f5) ((rd_T56 ((rd_T34 x0 0).f1) x3).f6.f0) ((rd_T56 ((rd_T34 x0 0).f1) x3).f6.f1) ((rd_T56 ((rd_T34 x0 0).f1) x3).f6.f2) ((rd_T56 ((rd_T34 x0 0).f1) x3).f6.f3)).bind fun t226=>(if t226=true then(if((rd_T56 ((rd_T34 x0 0).f1) x3).f0)>((rd_T34 x0 0).f0)then(spec_l07Ok.j2 k x0 x3 true)else(if x3>0 then(if 0≤(wrap64 (x3- 1))then(if(wrap64 (x3- 1))<(((rd_T34 x0 0).f1).length:Int)then(spec_l07Ok.j2 k x0 x3 (decide (((rd_T56 ((rd_T34 x0 0).f1) (wrap64 (x3- 1))).f0)≥((rd_T56 ((rd_T34 x0 0).f1) x3).f0))))else(none))else(none))else(spec_l07Ok.j2 k x0 x3 false)))else(spec_l07Ok.j2 k x0 x3 true)))else(none))else(spec_l07Ok.l1 k x0 0))else(none)
def spec_l07Ok.j2 : Nat → List (S34) → Int → Bool → Option (Bool)
 |0,_,_,_=>none
 |k+1,x0,x3,x65=>if x65=true then(some false)else(spec_l07Ok.l0 k x0 (wrap64 (x3+1)))
def spec_l07Ok.l1 : Nat → List (S34) → Int → Option (Bool)
 |0,_,_=>none
 |k+1,x0,x5=>if 0<(x0.length:Int)then(if x5<(((rd_T34 x0 0).f1).length:Int)then(if 0≤x5 then((spec_l07Refs.f k x0 [rd_T56 ((rd_T34 x0 0).f1) x5]).bind fun t233=>(if t233=true then(spec_l07Ok.l1 k x0 (wrap64 (x5+1)))else(some false)))else(none))else(some true))else(none)
end
def spec_l07Ok.f (k:Nat) (l0:List (S34)):Option (Bool):=if 0<(l0.length:Int)then((spec_l00In.f ((rd_T34 l0 0).f0) 0 1000000).bind fun t220=>(if t220=true then(spec_l07Ok.j0 k l0 (decide ((((rd_T34 l0 0).f1).length:Int)>40)))else(spec_l07Ok.j0 k l0 true)))else(none)
def spec_l07Ok.T7:Bool×List (List Nat×List Nat):=(true,[([],[]),([0],[0]),([1],[1]),([2,1],[2]),([3],[3]),([4,3],[3,4]),([3],[3]),([6,3],[3,6]),([7,3],[3,7]),([8,3],[3,8]),([5,9,3],[3,5,9]),([3,10],[3,10]),([11,3],[11]),([12],[12]),([13,12],[12,13]),([14,12,12],[12,14]),([15],[15]),([16,15],[15,16]),([17,15],[15,17]),([18,15],[15,18]),([15],[15]),([20,15],[15,20]),([19,21,15],[15,19,21]),([22,15],[15,22]),([23,15],[15,23]),([15],[15]),([25,15],[15,25]),([24,26,15],[15,24,26]),([15,27,12],[12,15,27]),([12,28],[12,28])])
def spec_l07Ok.B7:List Nat:=[0,1,3,7,15,31,15,79,207,463,1023,2047,4095,8191,16383,32767,65535,131071,262143,524287,65535,1114111,4194303,8388607,16777215,65535,33619967,134217727,268435455,536870911]
theorem spec_l07Ok.tab7:rtab .any (opsOf Try.f72 7)=spec_l07Ok.T7:=by kernel_rfl
theorem spec_l07Ok.bits7:waitsOk spec_l07Ok.T7.2 spec_l07Ok.B7=true:=by kernel_rfl
set_option maxHeartbeats 8000000 in
set_option maxRecDepth 100000 in
theorem spec_l07Ok.calls (k:Nat) (A0:Option Addr) (l0:List (S34)) (r:Bool) (w:World) (hr0:Kd.C k34 w A0 l0.length l0) (h:spec_l07Ok.f k l0=some r):
  Calls Try.prog 72 #[.pointer A0] w fun e w'=>e= .returned (.bool r)∧Below w.heap.size w w':=by
 have dB:=Try.underlying56
 have x:=zM hr0
 have dC:=zM (Nat.le_refl l0.length)
 clear hr0
 have HB:=zM (Below.refl w.heap.size w)
 have H:(if 0<(l0.length:Int)then((spec_l00In.f ((rd_T34 l0 0).f0) 0 1000000).bind fun bW=>(if bW=true then(spec_l07Ok.j0 k l0 (decide ((((rd_T34 l0 0).f1).length:Int)>40)))else(spec_l07Ok.j0 k l0 true)))else(none))=some r:=h
 clear h
 have bX:=zM H
 clear H
 go_enter Try.func72,Try.ntmps72
 go_upto_region 1 with(fail)
 go_cut [19] (fun cR wc=>∃(kq:Nat) (bk:Bool),cR= .bool bk∧Aside0 (spec_l07Ok.j0 kq l0 bk=some r)∧Aside0 (kq≤k)∧Aside0 (Below w.heap.size w wc))
 case first=>(
 have H:=bX.out
 clear bX
 by_cases c3:0<(l0.length:Int)
 ·(
 rw[if_pos c3]at H
 have c3b0:=zT c3
 have c3b1:decide (0<l0.length)=true:=zT (by omega)
 clear c3
 (first|rw[c3b0]|(simp only[i64_w,i32_w];rw[c3b0])|rw[c3b2]|skip)
 obtain⟨bW,A4,H⟩:=sO H
 by_cases c5:bW=true
 ·(
 subst c5
 rewrite[if_pos rfl]at H
 have H':=zM H
 clear H
 have av:0≤(0:Int):=(by omega)
 have aw:0<(l0.length:Int):=zzA
 obtain⟨cg,cS,cT,bY,ax,aj,aH,aI⟩:=at_T34 x.out 0 av aw
 cases bY
 have cU:(0<l0.length)=True:=eq_true (by omega)
 (try rw[sZ]at ax)
 (try rw[sZ]at aj)
 replace ax:=sX HB ax
 replace aj:=sX HB aj
 have cV:=zM aI
 have cW:=zM aH
 clear aI aH
 replace av:=eq_true av
 replace aw:=eq_true aw
 go_wp2_with (first|((with_reducible refine gate_callee (f:=77) rfl ?_);refine sC (some 10) Try.func77 #[.int .i64 ((rd_T34 l0 0).f0),.int .i64 0,.int .i64 1000000] (spec_l00In.calls ((rd_T34 l0 0).f0) 0 1000000 true _ A4.out) ?_;rintro e w' ⟨rfl,⟨nd,rfl⟩⟩;refine⟨_,rfl,?_⟩;have bZ:0≤(0:Int):=(by omega);have b0:0<(l0.length:Int):=zzA;obtain⟨ad221,dD,dE,cX,b1,bl,ch,ci⟩:=at_T34 x.out 0 bZ b0;obtain rfl:cg=ad221:=(by injection cX);have dF:(0<l0.length)=True:=eq_true (by omega);(try rw[sZ]at b1);(try rw[sZ]at bl);replace b1:=sX HB b1;replace bl:=sX HB bl;have dG:=zM ci;have dH:=zM ch;clear ci ch;replace bZ:=eq_true bZ;replace b0:=eq_true b0;have s:=zI (aj.symm.trans bl);injection s with s af ag;subst s;subst ag;clear af))
 go_meet
 case rel=>exact⟨_,(decide ((((rd_T34 l0 0).f1).length:Int)>40)),sr,H',⟨by first|omega|exact Nat.le_refl _⟩,⟨sb⟩⟩)
 replace c5:=zB c5
 subst c5
 rewrite[if_neg zQ]at H
 have H':=zM H
 clear H
 have av:0≤(0:Int):=(by omega)
 have aw:0<(l0.length:Int):=zzA
 obtain⟨cg,cS,cT,bY,ax,aj,aH,aI⟩:=at_T34 x.out 0 av aw
 cases bY
 have cU:(0<l0.length)=True:=eq_true (by omega)
 (try rw[sZ]at ax)
 (try rw[sZ]at aj)
 replace ax:=sX HB ax
 replace aj:=sX HB aj
 have cV:=zM aI
 have cW:=zM aH
 clear aI aH
 replace av:=eq_true av
 replace aw:=eq_true aw
 go_wp2_with (first|((with_reducible refine gate_callee (f:=77) rfl ?_);refine sC (some 10) Try.func77 #[.int .i64 ((rd_T34 l0 0).f0),.int .i64 0,.int .i64 1000000] (spec_l00In.calls ((rd_T34 l0 0).f0) 0 1000000 false _ A4.out) ?_;rintro e w' ⟨rfl,⟨nd,rfl⟩⟩;refine⟨_,rfl,?_⟩))
 go_meet
 case rel=>exact⟨_,(true),sr,H',⟨by first|omega|exact Nat.le_refl _⟩,⟨sb⟩⟩)
 rw[if_neg c3]at H
 exact absurd H (by simp))
 case rest=>(
 clear bX
 obtain⟨kq,bk,rfl,HA,ak,HB⟩:=hcut
 cases kq with
 |zero=>exact absurd HA.out (by simp[spec_l07Ok.j0])
 |succ kj1=>(
 have H:=HA.out
 clear HA
 simp only[spec_l07Ok.j0]at H
 by_cases c6:bk=true
 ·(
 subst c6
 rewrite[if_pos rfl]at H
 obtain rfl:=zI H
 go_wp2
 go_ret
 exact⟨sq,sb⟩)
 replace c6:=zB c6
 subst c6
 rewrite[if_neg zQ]at H
 have H':=zM H
 clear H
 go_wp2
 go_loopg [3] kj1 (fun kq v3 w'=>∃(a:Int),v3= .int .i64 a∧Aside0 (spec_l07Ok.l0 kq l0 a=some r)∧Aside0 (kq≤kj1)∧Aside0 (Below w.heap.size w w'))
 case atStart=>exact⟨(0),sr,H',⟨Nat.le_refl _⟩,⟨sb⟩⟩
 case round=>(
 clear H'
 try clear c6
 obtain⟨a,rfl,HA,al,HB⟩:=hrel
 cases gk with
 |zero=>exact absurd HA.out (by simp[spec_l07Ok.l0])
 |succ k2=>(
 have H:=HA.out
 clear HA
 simp only[spec_l07Ok.l0]at H
 by_cases c7:0<(l0.length:Int)
 ·(
 rw[if_pos c7]at H
 have c7b0:=zT c7
 have c7b1:decide (0<l0.length)=true:=zT (by omega)
 clear c7
 by_cases c8:a<(((rd_T34 l0 0).f1).length:Int)
 ·(
 rw[if_pos c8]at H
 have c8b0:=zT c8
 clear c8
 by_cases c9:0≤a
 ·(
 rw[if_pos c9]at H
 have c9b0:=zT c9
 clear c9
 have b2:=zM H
 clear H
 have am:0≤(0:Int):=(by omega)
 have an:0<(l0.length:Int):=zzA
 obtain⟨g,cY,cZ,b3,ao,ah,aJ,aK⟩:=at_T34 x.out 0 am an
 cases b3
 have c0:(0<l0.length)=True:=eq_true (by omega)
 (try rw[sZ]at ao)
 (try rw[sZ]at ah)
 replace ao:=sX HB ao
 replace ah:=sX HB ah
 have c1:=zM aK
 have c2:=zM aJ
 clear aK aJ
 replace am:=eq_true am
 replace an:=eq_true an
 have b4:0≤(0:Int):=(by omega)
 have b5:0<(l0.length:Int):=zzA
 obtain⟨ad223,dI,dJ,c4,b6,bm,cj,ck⟩:=at_T34 x.out 0 b4 b5
 obtain rfl:g=ad223:=(by injection c4)
 have dK:(0<l0.length)=True:=eq_true (by omega)
 (try rw[sZ]at b6)
 (try rw[sZ]at bm)
 replace b6:=sX HB b6
 replace bm:=sX HB bm
 have da:=zM ck
 have dL:=zM cj
 clear ck cj
 replace b4:=eq_true b4
 replace b5:=eq_true b5
 have s:=zI (ah.symm.trans bm)
 injection s with s af ag
 subst s
 subst ag
 clear af
 have b7:0≤(a:Int):=zzA
 have b8:a<(((rd_T34 l0 0).f1).length:Int):=zzA
 obtain⟨dM,j,l,m,o,db,cl,cm,cn,co,cp,cq,cr,ct,cu,cv,cw,cx,cy,cz⟩:=at_T56 da.out a b7 b8
 cases db
 replace cl:=sX HB cl
 replace cm:=sX HB cm
 replace cn:=sX HB cn
 replace co:=sX HB co
 replace cp:=sX HB cp
 replace cq:=sX HB cq
 replace cr:=sX HB cr
 replace ct:=sX HB ct
 replace cu:=sX HB cu
 replace cv:=sX HB cv
 have bn:=zM cx
 have bo:=zM cw
 clear cx cw
 have bp:=zM cz
 have bq:=zM cy
 clear cz cy
 replace b7:=eq_true b7
 replace b8:=eq_true b8
 go_upto_region 7 with(first|((with_reducible refine gate_dst (N:=4) rfl ?_);(try(refine gate_guard (by rfl) ?_;dsimp only));refine sV (N:=4) (cs:= #[.int .i64 0,.int .i64 0,.string (⟨#[]⟩:ByteArray),.int .i64 0,.slice none 0 0,.slice none 0 0,.int .i64 0,.int .i64 0,.string (⟨#[]⟩:ByteArray),.int .i64 0]) (t:=56) ?_;intro b hg I hbox hb;have d:=zM (hbox);have dN:=sG HB hg;have dO:=sG HB hg;replace HB:=sB HB hb;clear hb hbox hg;obtain⟨dP,dQ,dR,dS,dT,dU,dV,dW,dX,dY,dZ,d0,d1,d2,d3,d4,d5,d6,d7,d8⟩:=cells10 d.out))
 (try simp only[zP])
 go_cut [65] (fun dc wc=>∃(kq:Nat) (br:Bool),dc= .bool br∧Aside0 (spec_l07Ok.j2 kq l0 a br=some r)∧Aside0 (kq≤k2)∧Aside0 (wc.heap[b]?=some (.cells #[.int .i64 ((rd_T56 ((rd_T34 l0 0).f1) a).f0),.int .i64 ((rd_T56 ((rd_T34 l0 0).f1) a).f1),.string ((rd_T56 ((rd_T34 l0 0).f1) a).f2),.int .i64 ((rd_T56 ((rd_T34 l0 0).f1) a).f3),(.slice j ((rd_T56 ((rd_T34 l0 0).f1) a).f4).length l),(.slice m ((rd_T56 ((rd_T34 l0 0).f1) a).f5).length o),.int .i64 ((rd_T56 ((rd_T34 l0 0).f1) a).f6.f0),.int .i64 ((rd_T56 ((rd_T34 l0 0).f1) a).f6.f1),.string ((rd_T56 ((rd_T34 l0 0).f1) a).f6.f2),.int .i64 ((rd_T56 ((rd_T34 l0 0).f1) a).f6.f3)] 56 (0,0)))∧Aside0 (Below w.heap.size w wc))
 case first=>(
 have H:=b2.out
 clear b2
 obtain⟨dd,aL,H⟩:=sO H
 by_cases bs:dd=true
 ·(
 subst bs
 rewrite[if_pos rfl]at H
 by_cases aC:((rd_T56 ((rd_T34 l0 0).f1) a).f0)>((rd_T34 l0 0).f0)
 ·(
 rw[if_pos aC]at H
 have c15b0:decide (((rd_T34 l0 0).f0)<((rd_T56 ((rd_T34 l0 0).f1) a).f0))=true:=zT aC
 clear aC
 (first|rw[c15b0]|(simp only[i64_w,i32_w];rw[c15b0])|rw[c15b2]|skip)
 have H':=zM H
 clear H
 try go_wp2
 have E:Aside0 (((((((((((I.setCell ⟨b,0,none⟩ (.int .i64 ((rd_T56 ((rd_T34 l0 0).f1) a).f0))).setCell ⟨b,1,none⟩ (.int .i64 ((rd_T56 ((rd_T34 l0 0).f1) a).f1))).setCell ⟨b,2,none⟩ (.string ((rd_T56 ((rd_T34 l0 0).f1) a).f2))).setCell ⟨b,3,none⟩ (.int .i64 ((rd_T56 ((rd_T34 l0 0).f1) a).f3))).setCell ⟨b,4,none⟩ (.slice j ((rd_T56 ((rd_T34 l0 0).f1) a).f4).length l)).setCell ⟨b,5,none⟩ (.slice m ((rd_T56 ((rd_T34 l0 0).f1) a).f5).length o)).setCell ⟨b,6,none⟩ (.int .i64 ((rd_T56 ((rd_T34 l0 0).f1) a).f6.f0))).setCell ⟨b,7,none⟩ (.int .i64 ((rd_T56 ((rd_T34 l0 0).f1) a).f6.f1))).setCell ⟨b,8,none⟩ (.string ((rd_T56 ((rd_T34 l0 0).f1) a).f6.f2))).setCell ⟨b,9,none⟩ (.int .i64 ((rd_T56 ((rd_T34 l0 0).f1) a).f6.f3))).heap[b]?=some (.cells #[.int .i64 ((rd_T56 ((rd_T34 l0 0).f1) a).f0),.int .i64 ((rd_T56 ((rd_T34 l0 0).f1) a).f1),.string ((rd_T56 ((rd_T34 l0 0).f1) a).f2),.int .i64 ((rd_T56 ((rd_T34 l0 0).f1) a).f3),.slice j ((rd_T56 ((rd_T34 l0 0).f1) a).f4).length l,.slice m ((rd_T56 ((rd_T34 l0 0).f1) a).f5).length o,.int .i64 ((rd_T56 ((rd_T34 l0 0).f1) a).f6.f0),.int .i64 ((rd_T56 ((rd_T34 l0 0).f1) a).f6.f1),.string ((rd_T56 ((rd_T34 l0 0).f1) a).f6.f2),.int .i64 ((rd_T56 ((rd_T34 l0 0).f1) a).f6.f3)] 56 (0,0))):=⟨sP10 (sT d.out)⟩
 have F:Aside0 (Below w.heap.size w ((((((((((I.setCell ⟨b,0,none⟩ (.int .i64 ((rd_T56 ((rd_T34 l0 0).f1) a).f0))).setCell ⟨b,1,none⟩ (.int .i64 ((rd_T56 ((rd_T34 l0 0).f1) a).f1))).setCell ⟨b,2,none⟩ (.string ((rd_T56 ((rd_T34 l0 0).f1) a).f2))).setCell ⟨b,3,none⟩ (.int .i64 ((rd_T56 ((rd_T34 l0 0).f1) a).f3))).setCell ⟨b,4,none⟩ (.slice j ((rd_T56 ((rd_T34 l0 0).f1) a).f4).length l)).setCell ⟨b,5,none⟩ (.slice m ((rd_T56 ((rd_T34 l0 0).f1) a).f5).length o)).setCell ⟨b,6,none⟩ (.int .i64 ((rd_T56 ((rd_T34 l0 0).f1) a).f6.f0))).setCell ⟨b,7,none⟩ (.int .i64 ((rd_T56 ((rd_T34 l0 0).f1) a).f6.f1))).setCell ⟨b,8,none⟩ (.string ((rd_T56 ((rd_T34 l0 0).f1) a).f6.f2))).setCell ⟨b,9,none⟩ (.int .i64 ((rd_T56 ((rd_T34 l0 0).f1) a).f6.f3)))):=⟨sb⟩
 (try clear d)
 (try clear HB)
 generalize ((((((((((I.setCell ⟨b,0,none⟩ (.int .i64 ((rd_T56 ((rd_T34 l0 0).f1) a).f0))).setCell ⟨b,1,none⟩ (.int .i64 ((rd_T56 ((rd_T34 l0 0).f1) a).f1))).setCell ⟨b,2,none⟩ (.string ((rd_T56 ((rd_T34 l0 0).f1) a).f2))).setCell ⟨b,3,none⟩ (.int .i64 ((rd_T56 ((rd_T34 l0 0).f1) a).f3))).setCell ⟨b,4,none⟩ (.slice j ((rd_T56 ((rd_T34 l0 0).f1) a).f4).length l)).setCell ⟨b,5,none⟩ (.slice m ((rd_T56 ((rd_T34 l0 0).f1) a).f5).length o)).setCell ⟨b,6,none⟩ (.int .i64 ((rd_T56 ((rd_T34 l0 0).f1) a).f6.f0))).setCell ⟨b,7,none⟩ (.int .i64 ((rd_T56 ((rd_T34 l0 0).f1) a).f6.f1))).setCell ⟨b,8,none⟩ (.string ((rd_T56 ((rd_T34 l0 0).f1) a).f6.f2))).setCell ⟨b,9,none⟩ (.int .i64 ((rd_T56 ((rd_T34 l0 0).f1) a).f6.f3)))=w16 at E F ⊢
 have d:=E
 have HB:=F
 clear E F
 replace d:=zM (blk_drew d.out)
 replace HB:=zM (below_drew1 HB.out)
 have W:0≤(0:Int):=(by omega)
 have X:0<(l0.length:Int):=zzA
 obtain⟨ad227,bt,aD,aM,y,u,ap,aq⟩:=at_T34 x.out 0 W X
 have z:=u
 (try rw[sZ]at z)
 have A:=y
 (try rw[sZ]at A)
 obtain rfl:g=ad227:=(by injection aM)
 have cA:(0<l0.length)=True:=eq_true (by omega)
 (try rw[sZ]at y)
 (try rw[sZ]at u)
 replace y:=sX HB y
 replace u:=sX HB u
 have aN:=zM aq
 have cB:=zM ap
 clear aq ap
 replace W:=eq_true W
 replace X:=eq_true X
 refine start_ (n:=30) (S:=fun w'=>w'.cell? ⟨b,0,none⟩=some (.int .i64 ((rd_T56 ((rd_T34 l0 0).f1) a).f0))∧w'.cell? ⟨b,1,none⟩=some (.int .i64 ((rd_T56 ((rd_T34 l0 0).f1) a).f1))∧w'.cell? ⟨b,2,none⟩=some (.string ((rd_T56 ((rd_T34 l0 0).f1) a).f2))∧w'.cell? ⟨b,3,none⟩=some (.int .i64 ((rd_T56 ((rd_T34 l0 0).f1) a).f3))∧w'.cell? ⟨b,4,none⟩=some (.slice j ((rd_T56 ((rd_T34 l0 0).f1) a).f4).length l)∧w'.cell? ⟨b,5,none⟩=some (.slice m ((rd_T56 ((rd_T34 l0 0).f1) a).f5).length o)∧w'.cell? ⟨b,6,none⟩=some (.int .i64 ((rd_T56 ((rd_T34 l0 0).f1) a).f6.f0))∧w'.cell? ⟨b,7,none⟩=some (.int .i64 ((rd_T56 ((rd_T34 l0 0).f1) a).f6.f1))∧w'.cell? ⟨b,8,none⟩=some (.string ((rd_T56 ((rd_T34 l0 0).f1) a).f6.f2))∧w'.cell? ⟨b,9,none⟩=some (.int .i64 ((rd_T56 ((rd_T34 l0 0).f1) a).f6.f3))∧w'.cell? g=some (.int .i64 ((rd_T34 l0 0).f0))∧w'.cell? ⟨g.block,g.off+1,none⟩=some (.slice bt ((rd_T34 l0 0).f1).length aD)) (ds:=[]) #[false,false,false,false,false,false,false,false,false,false,false,false,false,false,false,false,false,false,false,false,false,false,false,false,false,false,false,false,false,false] (by kernel_rfl) rfl rfl ⟨(blk_cell d.out 0).trans rfl,(blk_cell d.out 1).trans rfl,(blk_cell d.out 2).trans rfl,(blk_cell d.out 3).trans rfl,(blk_cell d.out 4).trans rfl,(blk_cell d.out 5).trans rfl,(blk_cell d.out 6).trans rfl,(blk_cell d.out 7).trans rfl,(blk_cell d.out 8).trans rfl,(blk_cell d.out 9).trans rfl,((HB.out.cell (zL w _ A)).trans A),((HB.out.cell (zL w _ z)).trans z)⟩ (fun hHeld=>?_);refine with_tabW spec_l07Ok.tab7 spec_l07Ok.bits7 (fun c D=>?_)
 generalize w16.drew=w17 at d HB aN y u hHeld ⊢
 refine take_ (i:=0) (N:=some 36) (v:=?_) (a':=?_) (bN 30 1) rfl rfl (take_ofW c.out D.out (by kernel_rfl)) (fun _ _ _ h=>h) (Or.inl ⟨by rfl,?_⟩) hHeld ?_ ?_
 rotate_left
 ·(
 rintro w' ⟨J,L,M,O,P,Q,R,T,U,V,Y,Z⟩
 go_simp
 with_reducible rfl)
 rotate_left
 ·(
 simp only[zP,i64_w,i32_w]
 rfl)
 refine one_ (i:=1) (N:=some 37) (bN 30 3) rfl rfl (one_of c.out (by kernel_rfl)) (by decide) (fun K hK=>?_)
 refine goes_ Try.func61 (by kernel_rfl) rfl #[.agg #[.int .i64 ((rd_T56 ((rd_T34 l0 0).f1) a).f0),.int .i64 ((rd_T56 ((rd_T34 l0 0).f1) a).f1),.string ((rd_T56 ((rd_T34 l0 0).f1) a).f2),.int .i64 ((rd_T56 ((rd_T34 l0 0).f1) a).f3),.slice j ((rd_T56 ((rd_T34 l0 0).f1) a).f4).length l,.slice m ((rd_T56 ((rd_T34 l0 0).f1) a).f5).length o,.int .i64 ((rd_T56 ((rd_T34 l0 0).f1) a).f6.f0),.int .i64 ((rd_T56 ((rd_T34 l0 0).f1) a).f6.f1),.string ((rd_T56 ((rd_T34 l0 0).f1) a).f6.f2),.int .i64 ((rd_T56 ((rd_T34 l0 0).f1) a).f6.f3)]] (by rfl) rfl rfl (by(try simp only[List.map_toArray,List.map_cons,List.map_nil]);first|done|rfl|(simp only[List.length_drop,List.length_take];rfl)) ?_
 with_reducible refine(spec_l07Object.calls k2 ((rd_T56 ((rd_T34 l0 0).f1) a).f0) ((rd_T56 ((rd_T34 l0 0).f1) a).f1) ((rd_T56 ((rd_T34 l0 0).f1) a).f2) ((rd_T56 ((rd_T34 l0 0).f1) a).f3) _ _ ((rd_T56 ((rd_T34 l0 0).f1) a).f4) _ _ ((rd_T56 ((rd_T34 l0 0).f1) a).f5) ((rd_T56 ((rd_T34 l0 0).f1) a).f6.f0) ((rd_T56 ((rd_T34 l0 0).f1) a).f6.f1) ((rd_T56 ((rd_T34 l0 0).f1) a).f6.f2) ((rd_T56 ((rd_T34 l0 0).f1) a).f6.f3) true _ ?side1 ?side2 ?side3 ?side4 aL.out).mono ?_
 (case side1=>exact sD (zC bn.out HB.out))
 (case side2=>exact bo.out)
 (case side3=>exact sD (zC bp.out HB.out))
 (case side4=>exact bq.out)
 rintro e d9 ⟨rfl,hb⟩
 refine⟨_,rfl,?_⟩
 replace d:=sK d hb
 replace HB:=sB HB hb
 (try clear hb)
 (try clear hb2)
 (try clear hk)
 (try clear hi)
 refine hK.out _ _ ⟨(blk_cell d.out 0).trans rfl,(blk_cell d.out 1).trans rfl,(blk_cell d.out 2).trans rfl,(blk_cell d.out 3).trans rfl,(blk_cell d.out 4).trans rfl,(blk_cell d.out 5).trans rfl,(blk_cell d.out 6).trans rfl,(blk_cell d.out 7).trans rfl,(blk_cell d.out 8).trans rfl,(blk_cell d.out 9).trans rfl,((HB.out.cell (zL w _ A)).trans A),((HB.out.cell (zL w _ z)).trans z)⟩ (fun hHeld=>?_)
 clear hK K
 refine norm_ (a':=?_) ?_ ?_
 rotate_left
 ·(
 show Act.put _ (some 37) _=_
 simp only[zP,i64_w,i32_w]
 rfl)
 refine pure_ (i:=2) (N:=some 38) (v:=?_) (a':=?_) (bN 30 7) rfl rfl (any_of c.out (by kernel_rfl)) (fun _ _ _ h=>h) (Or.inl ⟨by rfl,?_⟩) ?_ ?_
 rotate_left
 ·(
 intro w'
 go_simp
 with_reducible rfl)
 rotate_left
 ·(
 simp only[zP,i64_w,i32_w]
 rfl)
 refine pure_ (i:=3) (N:=some 39) (v:=?_) (a':=?_) (bN 30 15) rfl rfl (any_of c.out (by kernel_rfl)) (fun _ _ _ h=>h) (Or.inl ⟨by rfl,?_⟩) ?_ ?_
 rotate_left
 ·(
 intro w'
 go_simp
 with_reducible rfl)
 rotate_left
 ·(
 simp only[zP,i64_w,i32_w]
 rfl)
 refine pure_ (i:=4) (N:=some 40) (v:=?_) (a':=?_) (bN 30 31) rfl rfl (any_of c.out (by kernel_rfl)) (fun _ _ _ h=>h) (Or.inl ⟨by rfl,?_⟩) ?_ ?_
 rotate_left
 ·(
 intro w'
 go_simp
 with_reducible rfl)
 rotate_left
 ·(
 simp only[zP,i64_w,i32_w]
 rfl)
 refine pure_ (i:=6) (N:=some 42) (v:=?_) (a':=?_) (bN 30 95) rfl rfl (any_of c.out (by kernel_rfl)) (fun _ _ _ h=>h) (Or.inl ⟨by rfl,?_⟩) ?_ ?_
 rotate_left
 ·(
 intro w'
 go_simp
 with_reducible rfl)
 rotate_left
 ·(
 simp only[zP,i64_w,i32_w]
 rfl)
 refine pure_ (i:=7) (N:=some 43) (v:=?_) (a':=?_) (bN 30 223) rfl rfl (any_of c.out (by kernel_rfl)) (fun _ _ _ h=>h) (Or.inl ⟨by rfl,?_⟩) ?_ ?_
 rotate_left
 ·(
 intro w'
 go_simp
 with_reducible rfl)
 rotate_left
 ·(
 simp only[zP,i64_w,i32_w]
 rfl)
 refine pure_ (i:=8) (N:=some 44) (v:=?_) (a':=?_) (bN 30 479) rfl rfl (any_of c.out (by kernel_rfl)) (fun _ _ _ h=>h) (Or.inl ⟨by rfl,?_⟩) ?_ ?_
 rotate_left
 ·(
 intro w'
 go_simp
 with_reducible rfl)
 rotate_left
 ·(
 simp only[zP,i64_w,i32_w]
 rfl)
 refine take_ (i:=5) (N:=some 41) (v:=?_) (a':=?_) (bN 30 511) rfl rfl (take_ofW c.out D.out (by kernel_rfl)) (fun _ _ _ h=>h) (Or.inl ⟨by rfl,?_⟩) hHeld ?_ ?_
 rotate_left
 ·(
 rintro w' ⟨J,L,M,O,P,Q,R,T,U,V,Y,Z⟩
 go_simp
 with_reducible rfl)
 rotate_left
 ·(
 simp only[zP,i64_w,i32_w]
 rfl)
 refine take_ (i:=9) (N:=some 45) (v:=?_) (a':=?_) (bN 30 1023) rfl rfl (take_ofW c.out D.out (by kernel_rfl)) (fun _ _ _ h=>h) (Or.inl ⟨by rfl,?_⟩) hHeld ?_ ?_
 rotate_left
 ·(
 rintro w' ⟨J,L,M,O,P,Q,R,T,U,V,Y,Z⟩
 go_simp
 with_reducible rfl)
 rotate_left
 ·(
 simp only[zP,i64_w,i32_w]
 rfl)
 refine pure_ (i:=10) (N:=some 46) (v:=?_) (a':=?_) (bN 30 2047) rfl rfl (any_of c.out (by kernel_rfl)) (fun _ _ _ h=>h) (Or.inl ⟨by rfl,?_⟩) ?_ ?_
 rotate_left
 ·(
 intro w'
 go_simp
 with_reducible rfl)
 rotate_left
 ·(
 simp only[zP,i64_w,i32_w]
 rfl)
 refine pure_ (i:=11) (N:=some 47) (v:=?_) (a':=?_) (bN 30 4095) rfl rfl (any_of c.out (by kernel_rfl)) (fun _ _ _ h=>h) (Or.inl ⟨by rfl,?_⟩) ?_ ?_
 rotate_left
 ·(
 intro w'
 go_simp
 with_reducible rfl)
 rotate_left
 ·(
 simp only[zP,i64_w,i32_w]
 rfl)
 refine pure_ (i:=12) (N:=some 48) (v:=?_) (a':=?_) (bN 30 8191) rfl rfl (any_of c.out (by kernel_rfl)) (fun _ _ _ h=>h) (Or.inl ⟨by rfl,?_⟩) ?_ ?_
 rotate_left
 ·(
 intro w'
 go_simp
 with_reducible rfl)
 rotate_left
 ·(
 simp only[zP,i64_w,i32_w]
 rfl)
 refine pure_ (i:=13) (N:=some 49) (v:=undef) (a':=?_) (bN 30 16383) rfl rfl (any_of c.out (by kernel_rfl)) (fun _ _ _ h=>h) (Or.inr ⟨by rfl,rfl⟩) ?_ ?_
 rotate_left
 ·(
 simp only[zP,i64_w,i32_w]
 rfl)
 refine pure_ (i:=14) (N:=some 50) (v:=undef) (a':=?_) (bN 30 32767) rfl rfl (any_of c.out (by kernel_rfl)) (fun _ _ _ h=>h) (Or.inr ⟨by rfl,rfl⟩) ?_ ?_
 rotate_left
 ·(
 simp only[zP,i64_w,i32_w]
 rfl)
 refine pure_ (i:=15) (N:=some 51) (v:=undef) (a':=?_) (bN 30 65535) rfl rfl (any_of c.out (by kernel_rfl)) (fun _ _ _ h=>h) (Or.inr ⟨by rfl,rfl⟩) ?_ ?_
 rotate_left
 ·(
 simp only[zP,i64_w,i32_w]
 rfl)
 refine pure_ (i:=16) (N:=some 52) (v:=undef) (a':=?_) (bN 30 131071) rfl rfl (any_of c.out (by kernel_rfl)) (fun _ _ _ h=>h) (Or.inr ⟨by rfl,rfl⟩) ?_ ?_
 rotate_left
 ·(
 simp only[zP,i64_w,i32_w]
 rfl)
 refine pure_ (i:=17) (N:=some 53) (v:=undef) (a':=?_) (bN 30 262143) rfl rfl (any_of c.out (by kernel_rfl)) (fun _ _ _ h=>h) (Or.inr ⟨by rfl,rfl⟩) ?_ ?_
 rotate_left
 ·(
 simp only[zP,i64_w,i32_w]
 rfl)
 refine pure_ (i:=18) (N:=some 54) (v:=undef) (a':=?_) (bN 30 524287) rfl rfl (any_of c.out (by kernel_rfl)) (fun _ _ _ h=>h) (Or.inr ⟨by rfl,rfl⟩) ?_ ?_
 rotate_left
 ·(
 simp only[zP,i64_w,i32_w]
 rfl)
 refine pure_ (i:=19) (N:=some 55) (v:=undef) (a':=?_) (bN 30 1048575) rfl rfl (any_of c.out (by kernel_rfl)) (fun _ _ _ h=>h) (Or.inr ⟨by rfl,rfl⟩) ?_ ?_
 rotate_left
 ·(
 simp only[zP,i64_w,i32_w]
 rfl)
 refine pure_ (i:=20) (N:=some 56) (v:=undef) (a':=?_) (bN 30 2097151) rfl rfl (any_of c.out (by kernel_rfl)) (fun _ _ _ h=>h) (Or.inr ⟨by rfl,rfl⟩) ?_ ?_
 rotate_left
 ·(
 simp only[zP,i64_w,i32_w]
 rfl)
 refine pure_ (i:=21) (N:=some 57) (v:=undef) (a':=?_) (bN 30 4194303) rfl rfl (any_of c.out (by kernel_rfl)) (fun _ _ _ h=>h) (Or.inr ⟨by rfl,rfl⟩) ?_ ?_
 rotate_left
 ·(
 simp only[zP,i64_w,i32_w]
 rfl)
 refine pure_ (i:=22) (N:=some 58) (v:=undef) (a':=?_) (bN 30 8388607) rfl rfl (any_of c.out (by kernel_rfl)) (fun _ _ _ h=>h) (Or.inr ⟨by rfl,rfl⟩) ?_ ?_
 rotate_left
 ·(
 simp only[zP,i64_w,i32_w]
 rfl)
 refine pure_ (i:=23) (N:=some 59) (v:=undef) (a':=?_) (bN 30 16777215) rfl rfl (any_of c.out (by kernel_rfl)) (fun _ _ _ h=>h) (Or.inr ⟨by rfl,rfl⟩) ?_ ?_
 rotate_left
 ·(
 simp only[zP,i64_w,i32_w]
 rfl)
 refine pure_ (i:=24) (N:=some 60) (v:=undef) (a':=?_) (bN 30 33554431) rfl rfl (any_of c.out (by kernel_rfl)) (fun _ _ _ h=>h) (Or.inr ⟨by rfl,rfl⟩) ?_ ?_
 rotate_left
 ·(
 simp only[zP,i64_w,i32_w]
 rfl)
 refine pure_ (i:=25) (N:=some 61) (v:=undef) (a':=?_) (bN 30 67108863) rfl rfl (any_of c.out (by kernel_rfl)) (fun _ _ _ h=>h) (Or.inr ⟨by rfl,rfl⟩) ?_ ?_
 rotate_left
 ·(
 simp only[zP,i64_w,i32_w]
 rfl)
 refine pure_ (i:=26) (N:=some 62) (v:=undef) (a':=?_) (bN 30 134217727) rfl rfl (any_of c.out (by kernel_rfl)) (fun _ _ _ h=>h) (Or.inr ⟨by rfl,rfl⟩) ?_ ?_
 rotate_left
 ·(
 simp only[zP,i64_w,i32_w]
 rfl)
 refine pure_ (i:=27) (N:=some 63) (v:=undef) (a':=?_) (bN 30 268435455) rfl rfl (any_of c.out (by kernel_rfl)) (fun _ _ _ h=>h) (Or.inr ⟨by rfl,rfl⟩) ?_ ?_
 rotate_left
 ·(
 simp only[zP,i64_w,i32_w]
 rfl)
 refine pure_ (i:=28) (N:=some 64) (v:=undef) (a':=?_) (bN 30 536870911) rfl rfl (any_of c.out (by kernel_rfl)) (fun _ _ _ h=>h) (Or.inr ⟨by rfl,rfl⟩) ?_ ?_
 rotate_left
 ·(
 simp only[zP,i64_w,i32_w]
 rfl)
 refine pure_ (i:=29) (N:=some 65) (v:=?_) (a':=?_) (bN 30 1073741823) rfl rfl (any_of c.out (by kernel_rfl)) (fun _ _ _ h=>h) (Or.inl ⟨by rfl,?_⟩) ?_ ?_
 rotate_left
 ·(
 intro w'
 go_simp
 with_reducible rfl)
 rotate_left
 ·(
 simp only[zP,i64_w,i32_w]
 rfl)
 refine done_ (done_of c.out (by kernel_rfl)) ?_
 try go_wp2
 go_meet
 case rel=>exact⟨_,(true),sr,H',⟨by have:=ak.out;have:=al.out;first|omega|exact Nat.le_refl _⟩,⟨by exact sT d.out⟩,⟨sb⟩⟩)
 rw[if_neg aC]at H
 have c15b0:decide (((rd_T34 l0 0).f0)<((rd_T56 ((rd_T34 l0 0).f1) a).f0))=false:=zF aC
 clear aC
 (first|rw[c15b0]|(simp only[i64_w,i32_w];rw[c15b0])|rw[c15b2]|skip)
 by_cases aE:a>0
 ·(
 rw[if_pos aE]at H
 have c19b0:decide (0<a)=true:=zT aE
 clear aE
 obtain⟨ji20,hji20⟩:∃j_:Int,(wrap64 (a- 1))=j_:=⟨_,rfl⟩
 replace H:(if 0≤(ji20)then(if(ji20)<(((rd_T34 l0 0).f1).length:Int)then(spec_l07Ok.j2 k2 l0 a (decide (((rd_T56 ((rd_T34 l0 0).f1) (ji20)).f0)≥((rd_T56 ((rd_T34 l0 0).f1) a).f0))))else(none))else(none))=some r:=by first|(rw[hji20]at H;exact H)|(simp only[hji20]at H ⊢;exact H)
 (try rw[hji20]at aL)
 have hji20w:(IntKind.i64.wrap (a- 1))=ji20:=(i64_w _).trans hji20
 by_cases bu:0≤(ji20)
 ·(
 rw[if_pos bu]at H
 have c21b0:=zT bu
 clear bu
 by_cases bv:(ji20)<(((rd_T34 l0 0).f1).length:Int)
 ·(
 rw[if_pos bv]at H
 have c22b0:=zT bv
 clear bv
 have H':=zM H
 clear H
 try go_wp2
 have E:Aside0 (((((((((((I.setCell ⟨b,0,none⟩ (.int .i64 ((rd_T56 ((rd_T34 l0 0).f1) a).f0))).setCell ⟨b,1,none⟩ (.int .i64 ((rd_T56 ((rd_T34 l0 0).f1) a).f1))).setCell ⟨b,2,none⟩ (.string ((rd_T56 ((rd_T34 l0 0).f1) a).f2))).setCell ⟨b,3,none⟩ (.int .i64 ((rd_T56 ((rd_T34 l0 0).f1) a).f3))).setCell ⟨b,4,none⟩ (.slice j ((rd_T56 ((rd_T34 l0 0).f1) a).f4).length l)).setCell ⟨b,5,none⟩ (.slice m ((rd_T56 ((rd_T34 l0 0).f1) a).f5).length o)).setCell ⟨b,6,none⟩ (.int .i64 ((rd_T56 ((rd_T34 l0 0).f1) a).f6.f0))).setCell ⟨b,7,none⟩ (.int .i64 ((rd_T56 ((rd_T34 l0 0).f1) a).f6.f1))).setCell ⟨b,8,none⟩ (.string ((rd_T56 ((rd_T34 l0 0).f1) a).f6.f2))).setCell ⟨b,9,none⟩ (.int .i64 ((rd_T56 ((rd_T34 l0 0).f1) a).f6.f3))).heap[b]?=some (.cells #[.int .i64 ((rd_T56 ((rd_T34 l0 0).f1) a).f0),.int .i64 ((rd_T56 ((rd_T34 l0 0).f1) a).f1),.string ((rd_T56 ((rd_T34 l0 0).f1) a).f2),.int .i64 ((rd_T56 ((rd_T34 l0 0).f1) a).f3),.slice j ((rd_T56 ((rd_T34 l0 0).f1) a).f4).length l,.slice m ((rd_T56 ((rd_T34 l0 0).f1) a).f5).length o,.int .i64 ((rd_T56 ((rd_T34 l0 0).f1) a).f6.f0),.int .i64 ((rd_T56 ((rd_T34 l0 0).f1) a).f6.f1),.string ((rd_T56 ((rd_T34 l0 0).f1) a).f6.f2),.int .i64 ((rd_T56 ((rd_T34 l0 0).f1) a).f6.f3)] 56 (0,0))):=⟨sP10 (sT d.out)⟩
 have F:Aside0 (Below w.heap.size w ((((((((((I.setCell ⟨b,0,none⟩ (.int .i64 ((rd_T56 ((rd_T34 l0 0).f1) a).f0))).setCell ⟨b,1,none⟩ (.int .i64 ((rd_T56 ((rd_T34 l0 0).f1) a).f1))).setCell ⟨b,2,none⟩ (.string ((rd_T56 ((rd_T34 l0 0).f1) a).f2))).setCell ⟨b,3,none⟩ (.int .i64 ((rd_T56 ((rd_T34 l0 0).f1) a).f3))).setCell ⟨b,4,none⟩ (.slice j ((rd_T56 ((rd_T34 l0 0).f1) a).f4).length l)).setCell ⟨b,5,none⟩ (.slice m ((rd_T56 ((rd_T34 l0 0).f1) a).f5).length o)).setCell ⟨b,6,none⟩ (.int .i64 ((rd_T56 ((rd_T34 l0 0).f1) a).f6.f0))).setCell ⟨b,7,none⟩ (.int .i64 ((rd_T56 ((rd_T34 l0 0).f1) a).f6.f1))).setCell ⟨b,8,none⟩ (.string ((rd_T56 ((rd_T34 l0 0).f1) a).f6.f2))).setCell ⟨b,9,none⟩ (.int .i64 ((rd_T56 ((rd_T34 l0 0).f1) a).f6.f3)))):=⟨sb⟩
 (try clear d)
 (try clear HB)
 generalize ((((((((((I.setCell ⟨b,0,none⟩ (.int .i64 ((rd_T56 ((rd_T34 l0 0).f1) a).f0))).setCell ⟨b,1,none⟩ (.int .i64 ((rd_T56 ((rd_T34 l0 0).f1) a).f1))).setCell ⟨b,2,none⟩ (.string ((rd_T56 ((rd_T34 l0 0).f1) a).f2))).setCell ⟨b,3,none⟩ (.int .i64 ((rd_T56 ((rd_T34 l0 0).f1) a).f3))).setCell ⟨b,4,none⟩ (.slice j ((rd_T56 ((rd_T34 l0 0).f1) a).f4).length l)).setCell ⟨b,5,none⟩ (.slice m ((rd_T56 ((rd_T34 l0 0).f1) a).f5).length o)).setCell ⟨b,6,none⟩ (.int .i64 ((rd_T56 ((rd_T34 l0 0).f1) a).f6.f0))).setCell ⟨b,7,none⟩ (.int .i64 ((rd_T56 ((rd_T34 l0 0).f1) a).f6.f1))).setCell ⟨b,8,none⟩ (.string ((rd_T56 ((rd_T34 l0 0).f1) a).f6.f2))).setCell ⟨b,9,none⟩ (.int .i64 ((rd_T56 ((rd_T34 l0 0).f1) a).f6.f3)))=w23 at E F ⊢
 have d:=E
 have HB:=F
 clear E F
 replace d:=zM (blk_drew d.out)
 replace HB:=zM (below_drew1 HB.out)
 have W:0≤(0:Int):=(by omega)
 have X:0<(l0.length:Int):=zzA
 obtain⟨ad227,bt,aD,aM,y,u,ap,aq⟩:=at_T34 x.out 0 W X
 have z:=u
 (try rw[sZ]at z)
 have A:=y
 (try rw[sZ]at A)
 obtain rfl:g=ad227:=(by injection aM)
 have cA:(0<l0.length)=True:=eq_true (by omega)
 (try rw[sZ]at y)
 (try rw[sZ]at u)
 replace y:=sX HB y
 replace u:=sX HB u
 have aN:=zM aq
 have cB:=zM ap
 clear aq ap
 replace W:=eq_true W
 replace X:=eq_true X
 have b9:0≤(0:Int):=(by omega)
 have ca:0<(l0.length:Int):=zzA
 obtain⟨ad228,ea,eb,de,aO,aF,cC,cD⟩:=at_T34 x.out 0 b9 ca
 have aP:=aF
 (try rw[sZ]at aP)
 have aQ:=aO
 (try rw[sZ]at aQ)
 obtain rfl:g=ad228:=(by injection de)
 have ec:(0<l0.length)=True:=eq_true (by omega)
 (try rw[sZ]at aO)
 (try rw[sZ]at aF)
 replace aO:=sX HB aO
 replace aF:=sX HB aF
 have cE:=zM cD
 have ed:=zM cC
 clear cD cC
 replace b9:=eq_true b9
 replace ca:=eq_true ca
 have s:=zI (u.symm.trans aF)
 injection s with s af ag
 subst s
 subst ag
 clear af
 have cb:0≤((ji20):Int):=zzA
 have cc:(ji20)<(((rd_T34 l0 0).f1).length:Int):=zzA
 obtain⟨p,df,dg,dh,di,dj,bw,bx,bz,bA,bB,bC,bD,bE,bF,bG,cF,cG,cH,cI⟩:=at_T56 cE.out (ji20) cb cc
 have bH:=bG
 have bI:=bF
 have bJ:=bE
 have bK:=bD
 have bL:=bC
 have bM:=bB
 have bO:=bA
 have bP:=bz
 have bQ:=bx
 have bR:=bw
 cases dj
 replace bw:=sX HB bw
 replace bx:=sX HB bx
 replace bz:=sX HB bz
 replace bA:=sX HB bA
 replace bB:=sX HB bB
 replace bC:=sX HB bC
 replace bD:=sX HB bD
 replace bE:=sX HB bE
 replace bF:=sX HB bF
 replace bG:=sX HB bG
 have dk:=zM cG
 have ee:=zM cF
 clear cG cF
 have dl:=zM cI
 have ef:=zM cH
 clear cI cH
 replace cb:=eq_true cb
 replace cc:=eq_true cc
 refine start_ (n:=30) (S:=fun w'=>w'.cell? ⟨b,0,none⟩=some (.int .i64 ((rd_T56 ((rd_T34 l0 0).f1) a).f0))∧w'.cell? ⟨b,1,none⟩=some (.int .i64 ((rd_T56 ((rd_T34 l0 0).f1) a).f1))∧w'.cell? ⟨b,2,none⟩=some (.string ((rd_T56 ((rd_T34 l0 0).f1) a).f2))∧w'.cell? ⟨b,3,none⟩=some (.int .i64 ((rd_T56 ((rd_T34 l0 0).f1) a).f3))∧w'.cell? ⟨b,4,none⟩=some (.slice j ((rd_T56 ((rd_T34 l0 0).f1) a).f4).length l)∧w'.cell? ⟨b,5,none⟩=some (.slice m ((rd_T56 ((rd_T34 l0 0).f1) a).f5).length o)∧w'.cell? ⟨b,6,none⟩=some (.int .i64 ((rd_T56 ((rd_T34 l0 0).f1) a).f6.f0))∧w'.cell? ⟨b,7,none⟩=some (.int .i64 ((rd_T56 ((rd_T34 l0 0).f1) a).f6.f1))∧w'.cell? ⟨b,8,none⟩=some (.string ((rd_T56 ((rd_T34 l0 0).f1) a).f6.f2))∧w'.cell? ⟨b,9,none⟩=some (.int .i64 ((rd_T56 ((rd_T34 l0 0).f1) a).f6.f3))∧w'.cell? g=some (.int .i64 ((rd_T34 l0 0).f0))∧w'.cell? ⟨g.block,g.off+1,none⟩=some (.slice (some p) ((rd_T34 l0 0).f1).length aD)∧w'.cell? g=some (.int .i64 ((rd_T34 l0 0).f0))∧w'.cell? ⟨g.block,g.off+1,none⟩=some (.slice (some p) ((rd_T34 l0 0).f1).length aD)∧w'.cell? (p.add (((ji20)).toNat*10))=some (.int .i64 ((rd_T56 ((rd_T34 l0 0).f1) (ji20)).f0))∧w'.cell? ⟨(p.add (((ji20)).toNat*10)).block,(p.add (((ji20)).toNat*10)).off+1,none⟩=some (.int .i64 ((rd_T56 ((rd_T34 l0 0).f1) (ji20)).f1))∧w'.cell? ⟨(p.add (((ji20)).toNat*10)).block,(p.add (((ji20)).toNat*10)).off+2,none⟩=some (.string ((rd_T56 ((rd_T34 l0 0).f1) (ji20)).f2))∧w'.cell? ⟨(p.add (((ji20)).toNat*10)).block,(p.add (((ji20)).toNat*10)).off+3,none⟩=some (.int .i64 ((rd_T56 ((rd_T34 l0 0).f1) (ji20)).f3))∧w'.cell? ⟨(p.add (((ji20)).toNat*10)).block,(p.add (((ji20)).toNat*10)).off+4,none⟩=some (.slice df ((rd_T56 ((rd_T34 l0 0).f1) (ji20)).f4).length dg)∧w'.cell? ⟨(p.add (((ji20)).toNat*10)).block,(p.add (((ji20)).toNat*10)).off+5,none⟩=some (.slice dh ((rd_T56 ((rd_T34 l0 0).f1) (ji20)).f5).length di)∧w'.cell? ⟨(p.add (((ji20)).toNat*10)).block,(p.add (((ji20)).toNat*10)).off+6,none⟩=some (.int .i64 ((rd_T56 ((rd_T34 l0 0).f1) (ji20)).f6.f0))∧w'.cell? ⟨(p.add (((ji20)).toNat*10)).block,(p.add (((ji20)).toNat*10)).off+7,none⟩=some (.int .i64 ((rd_T56 ((rd_T34 l0 0).f1) (ji20)).f6.f1))∧w'.cell? ⟨(p.add (((ji20)).toNat*10)).block,(p.add (((ji20)).toNat*10)).off+8,none⟩=some (.string ((rd_T56 ((rd_T34 l0 0).f1) (ji20)).f6.f2))∧w'.cell? ⟨(p.add (((ji20)).toNat*10)).block,(p.add (((ji20)).toNat*10)).off+9,none⟩=some (.int .i64 ((rd_T56 ((rd_T34 l0 0).f1) (ji20)).f6.f3))) (ds:=[]) #[false,false,false,false,false,false,false,false,false,false,false,false,false,false,false,false,false,false,false,false,false,false,false,false,false,false,false,false,false,false] (by kernel_rfl) rfl rfl ⟨(blk_cell d.out 0).trans rfl,(blk_cell d.out 1).trans rfl,(blk_cell d.out 2).trans rfl,(blk_cell d.out 3).trans rfl,(blk_cell d.out 4).trans rfl,(blk_cell d.out 5).trans rfl,(blk_cell d.out 6).trans rfl,(blk_cell d.out 7).trans rfl,(blk_cell d.out 8).trans rfl,(blk_cell d.out 9).trans rfl,((HB.out.cell (zL w _ A)).trans A),((HB.out.cell (zL w _ z)).trans z),((HB.out.cell (zL w _ aQ)).trans aQ),((HB.out.cell (zL w _ aP)).trans aP),((HB.out.cell (zL w _ bR)).trans bR),((HB.out.cell (zL w _ bQ)).trans bQ),((HB.out.cell (zL w _ bP)).trans bP),((HB.out.cell (zL w _ bO)).trans bO),((HB.out.cell (zL w _ bM)).trans bM),((HB.out.cell (zL w _ bL)).trans bL),((HB.out.cell (zL w _ bK)).trans bK),((HB.out.cell (zL w _ bJ)).trans bJ),((HB.out.cell (zL w _ bI)).trans bI),((HB.out.cell (zL w _ bH)).trans bH)⟩ (fun hHeld=>?_);refine with_tabW spec_l07Ok.tab7 spec_l07Ok.bits7 (fun c D=>?_)
 generalize w23.drew=w24 at d HB aN cE dk dl y u aO aF bw bx bz bA bB bC bD bE bF bG hHeld ⊢
 refine take_ (i:=0) (N:=some 36) (v:=?_) (a':=?_) (bN 30 1) rfl rfl (take_ofW c.out D.out (by kernel_rfl)) (fun _ _ _ h=>h) (Or.inl ⟨by rfl,?_⟩) hHeld ?_ ?_
 rotate_left
 ·(
 rintro w' ⟨J,L,M,O,P,Q,R,T,U,V,Y,Z,aR,aS,aT,aU,aV,aW,aX,aY,aZ,a0,a1,a2⟩
 go_simp
 with_reducible rfl)
 rotate_left
 ·(
 simp only[zP,i64_w,i32_w]
 rfl)
 refine one_ (i:=1) (N:=some 37) (bN 30 3) rfl rfl (one_of c.out (by kernel_rfl)) (by decide) (fun K hK=>?_)
 refine goes_ Try.func61 (by kernel_rfl) rfl #[.agg #[.int .i64 ((rd_T56 ((rd_T34 l0 0).f1) a).f0),.int .i64 ((rd_T56 ((rd_T34 l0 0).f1) a).f1),.string ((rd_T56 ((rd_T34 l0 0).f1) a).f2),.int .i64 ((rd_T56 ((rd_T34 l0 0).f1) a).f3),.slice j ((rd_T56 ((rd_T34 l0 0).f1) a).f4).length l,.slice m ((rd_T56 ((rd_T34 l0 0).f1) a).f5).length o,.int .i64 ((rd_T56 ((rd_T34 l0 0).f1) a).f6.f0),.int .i64 ((rd_T56 ((rd_T34 l0 0).f1) a).f6.f1),.string ((rd_T56 ((rd_T34 l0 0).f1) a).f6.f2),.int .i64 ((rd_T56 ((rd_T34 l0 0).f1) a).f6.f3)]] (by rfl) rfl rfl (by(try simp only[List.map_toArray,List.map_cons,List.map_nil]);first|done|rfl|(simp only[List.length_drop,List.length_take];rfl)) ?_
 with_reducible refine(spec_l07Object.calls k2 ((rd_T56 ((rd_T34 l0 0).f1) a).f0) ((rd_T56 ((rd_T34 l0 0).f1) a).f1) ((rd_T56 ((rd_T34 l0 0).f1) a).f2) ((rd_T56 ((rd_T34 l0 0).f1) a).f3) _ _ ((rd_T56 ((rd_T34 l0 0).f1) a).f4) _ _ ((rd_T56 ((rd_T34 l0 0).f1) a).f5) ((rd_T56 ((rd_T34 l0 0).f1) a).f6.f0) ((rd_T56 ((rd_T34 l0 0).f1) a).f6.f1) ((rd_T56 ((rd_T34 l0 0).f1) a).f6.f2) ((rd_T56 ((rd_T34 l0 0).f1) a).f6.f3) true _ ?side1 ?side2 ?side3 ?side4 aL.out).mono ?_
 (case side1=>exact sD (zC bn.out HB.out))
 (case side2=>exact bo.out)
 (case side3=>exact sD (zC bp.out HB.out))
 (case side4=>exact bq.out)
 rintro e eg ⟨rfl,hb⟩
 refine⟨_,rfl,?_⟩
 replace d:=sK d hb
 replace HB:=sB HB hb
 (try clear hb)
 (try clear hb2)
 (try clear hk)
 (try clear hi)
 refine hK.out _ _ ⟨(blk_cell d.out 0).trans rfl,(blk_cell d.out 1).trans rfl,(blk_cell d.out 2).trans rfl,(blk_cell d.out 3).trans rfl,(blk_cell d.out 4).trans rfl,(blk_cell d.out 5).trans rfl,(blk_cell d.out 6).trans rfl,(blk_cell d.out 7).trans rfl,(blk_cell d.out 8).trans rfl,(blk_cell d.out 9).trans rfl,((HB.out.cell (zL w _ A)).trans A),((HB.out.cell (zL w _ z)).trans z),((HB.out.cell (zL w _ aQ)).trans aQ),((HB.out.cell (zL w _ aP)).trans aP),((HB.out.cell (zL w _ bR)).trans bR),((HB.out.cell (zL w _ bQ)).trans bQ),((HB.out.cell (zL w _ bP)).trans bP),((HB.out.cell (zL w _ bO)).trans bO),((HB.out.cell (zL w _ bM)).trans bM),((HB.out.cell (zL w _ bL)).trans bL),((HB.out.cell (zL w _ bK)).trans bK),((HB.out.cell (zL w _ bJ)).trans bJ),((HB.out.cell (zL w _ bI)).trans bI),((HB.out.cell (zL w _ bH)).trans bH)⟩ (fun hHeld=>?_)
 clear hK K
 refine norm_ (a':=?_) ?_ ?_
 rotate_left
 ·(
 show Act.put _ (some 37) _=_
 simp only[zP,i64_w,i32_w]
 rfl)
 refine pure_ (i:=2) (N:=some 38) (v:=?_) (a':=?_) (bN 30 7) rfl rfl (any_of c.out (by kernel_rfl)) (fun _ _ _ h=>h) (Or.inl ⟨by rfl,?_⟩) ?_ ?_
 rotate_left
 ·(
 intro w'
 go_simp
 with_reducible rfl)
 rotate_left
 ·(
 simp only[zP,i64_w,i32_w]
 rfl)
 refine pure_ (i:=3) (N:=some 39) (v:=?_) (a':=?_) (bN 30 15) rfl rfl (any_of c.out (by kernel_rfl)) (fun _ _ _ h=>h) (Or.inl ⟨by rfl,?_⟩) ?_ ?_
 rotate_left
 ·(
 intro w'
 go_simp
 with_reducible rfl)
 rotate_left
 ·(
 simp only[zP,i64_w,i32_w]
 rfl)
 refine pure_ (i:=4) (N:=some 40) (v:=?_) (a':=?_) (bN 30 31) rfl rfl (any_of c.out (by kernel_rfl)) (fun _ _ _ h=>h) (Or.inl ⟨by rfl,?_⟩) ?_ ?_
 rotate_left
 ·(
 intro w'
 go_simp
 with_reducible rfl)
 rotate_left
 ·(
 simp only[zP,i64_w,i32_w]
 rfl)
 refine pure_ (i:=6) (N:=some 42) (v:=?_) (a':=?_) (bN 30 95) rfl rfl (any_of c.out (by kernel_rfl)) (fun _ _ _ h=>h) (Or.inl ⟨by rfl,?_⟩) ?_ ?_
 rotate_left
 ·(
 intro w'
 go_simp
 with_reducible rfl)
 rotate_left
 ·(
 simp only[zP,i64_w,i32_w]
 rfl)
 refine pure_ (i:=7) (N:=some 43) (v:=?_) (a':=?_) (bN 30 223) rfl rfl (any_of c.out (by kernel_rfl)) (fun _ _ _ h=>h) (Or.inl ⟨by rfl,?_⟩) ?_ ?_
 rotate_left
 ·(
 intro w'
 go_simp
 with_reducible rfl)
 rotate_left
 ·(
 simp only[zP,i64_w,i32_w]
 rfl)
 refine pure_ (i:=8) (N:=some 44) (v:=?_) (a':=?_) (bN 30 479) rfl rfl (any_of c.out (by kernel_rfl)) (fun _ _ _ h=>h) (Or.inl ⟨by rfl,?_⟩) ?_ ?_
 rotate_left
 ·(
 intro w'
 go_simp
 with_reducible rfl)
 rotate_left
 ·(
 simp only[zP,i64_w,i32_w]
 rfl)
 refine take_ (i:=5) (N:=some 41) (v:=?_) (a':=?_) (bN 30 511) rfl rfl (take_ofW c.out D.out (by kernel_rfl)) (fun _ _ _ h=>h) (Or.inl ⟨by rfl,?_⟩) hHeld ?_ ?_
 rotate_left
 ·(
 rintro w' ⟨J,L,M,O,P,Q,R,T,U,V,Y,Z,aR,aS,aT,aU,aV,aW,aX,aY,aZ,a0,a1,a2⟩
 go_simp
 with_reducible rfl)
 rotate_left
 ·(
 simp only[zP,i64_w,i32_w]
 rfl)
 refine take_ (i:=9) (N:=some 45) (v:=?_) (a':=?_) (bN 30 1023) rfl rfl (take_ofW c.out D.out (by kernel_rfl)) (fun _ _ _ h=>h) (Or.inl ⟨by rfl,?_⟩) hHeld ?_ ?_
 rotate_left
 ·(
 rintro w' ⟨J,L,M,O,P,Q,R,T,U,V,Y,Z,aR,aS,aT,aU,aV,aW,aX,aY,aZ,a0,a1,a2⟩
 go_simp
 with_reducible rfl)
 rotate_left
 ·(
 simp only[zP,i64_w,i32_w]
 rfl)
 refine pure_ (i:=10) (N:=some 46) (v:=?_) (a':=?_) (bN 30 2047) rfl rfl (any_of c.out (by kernel_rfl)) (fun _ _ _ h=>h) (Or.inl ⟨by rfl,?_⟩) ?_ ?_
 rotate_left
 ·(
 intro w'
 go_simp
 with_reducible rfl)
 rotate_left
 ·(
 simp only[zP,i64_w,i32_w]
 rfl)
 refine pure_ (i:=11) (N:=some 47) (v:=?_) (a':=?_) (bN 30 4095) rfl rfl (any_of c.out (by kernel_rfl)) (fun _ _ _ h=>h) (Or.inl ⟨by rfl,?_⟩) ?_ ?_
 rotate_left
 ·(
 intro w'
 go_simp
 with_reducible rfl)
 rotate_left
 ·(
 simp only[zP,i64_w,i32_w]
 rfl)
 refine pure_ (i:=12) (N:=some 48) (v:=?_) (a':=?_) (bN 30 8191) rfl rfl (any_of c.out (by kernel_rfl)) (fun _ _ _ h=>h) (Or.inl ⟨by rfl,?_⟩) ?_ ?_
 rotate_left
 ·(
 intro w'
 go_simp
 with_reducible rfl)
 rotate_left
 ·(
 simp only[zP,i64_w,i32_w]
 rfl)
 refine pure_ (i:=13) (N:=some 49) (v:=?_) (a':=?_) (bN 30 16383) rfl rfl (any_of c.out (by kernel_rfl)) (fun _ _ _ h=>h) (Or.inl ⟨by rfl,?_⟩) ?_ ?_
 rotate_left
 ·(
 intro w'
 go_simp
 with_reducible rfl)
 rotate_left
 ·(
 simp only[zP,i64_w,i32_w]
 rfl)
 refine pure_ (i:=14) (N:=some 50) (v:=?_) (a':=?_) (bN 30 32767) rfl rfl (any_of c.out (by kernel_rfl)) (fun _ _ _ h=>h) (Or.inl ⟨by rfl,?_⟩) ?_ ?_
 rotate_left
 ·(
 intro w'
 go_simp
 with_reducible rfl)
 rotate_left
 ·(
 simp only[zP,i64_w,i32_w]
 rfl)
 refine pure_ (i:=15) (N:=some 51) (v:=?_) (a':=?_) (bN 30 65535) rfl rfl (any_of c.out (by kernel_rfl)) (fun _ _ _ h=>h) (Or.inl ⟨by rfl,?_⟩) ?_ ?_
 rotate_left
 ·(
 intro w'
 go_simp
 with_reducible rfl)
 rotate_left
 ·(
 simp only[zP,i64_w,i32_w]
 rfl)
 refine pure_ (i:=16) (N:=some 52) (v:=?_) (a':=?_) (bN 30 131071) rfl rfl (any_of c.out (by kernel_rfl)) (fun _ _ _ h=>h) (Or.inl ⟨by rfl,?_⟩) ?_ ?_
 rotate_left
 ·(
 intro w'
 go_simp
 with_reducible rfl)
 rotate_left
 ·(
 simp only[zP,i64_w,i32_w]
 rfl)
 refine pure_ (i:=17) (N:=some 53) (v:=?_) (a':=?_) (bN 30 262143) rfl rfl (any_of c.out (by kernel_rfl)) (fun _ _ _ h=>h) (Or.inl ⟨by rfl,?_⟩) ?_ ?_
 rotate_left
 ·(
 intro w'
 go_simp
 with_reducible rfl)
 rotate_left
 ·(
 simp only[zP,i64_w,i32_w]
 rfl)
 refine pure_ (i:=18) (N:=some 54) (v:=?_) (a':=?_) (bN 30 524287) rfl rfl (any_of c.out (by kernel_rfl)) (fun _ _ _ h=>h) (Or.inl ⟨by rfl,?_⟩) ?_ ?_
 rotate_left
 ·(
 intro w'
 go_simp
 with_reducible rfl)
 rotate_left
 ·(
 simp only[zP,i64_w,i32_w]
 rfl)
 refine pure_ (i:=20) (N:=some 56) (v:=?_) (a':=?_) (bN 30 1572863) rfl rfl (any_of c.out (by kernel_rfl)) (fun _ _ _ h=>h) (Or.inl ⟨by rfl,?_⟩) ?_ ?_
 rotate_left
 ·(
 intro w'
 go_simp
 with_reducible rfl)
 rotate_left
 ·(
 simp only[zP,i64_w,i32_w]
 rfl)
 refine pure_ (i:=21) (N:=some 57) (v:=?_) (a':=?_) (bN 30 3670015) rfl rfl (any_of c.out (by kernel_rfl)) (fun _ _ _ h=>h) (Or.inl ⟨by rfl,?_⟩) ?_ ?_
 rotate_left
 ·(
 intro w'
 go_simp
 with_reducible rfl)
 rotate_left
 ·(
 simp only[zP,i64_w,i32_w]
 rfl)
 refine pure_ (i:=25) (N:=some 61) (v:=?_) (a':=?_) (bN 30 37224447) rfl rfl (any_of c.out (by kernel_rfl)) (fun _ _ _ h=>h) (Or.inl ⟨by rfl,?_⟩) ?_ ?_
 rotate_left
 ·(
 intro w'
 go_simp
 with_reducible rfl)
 rotate_left
 ·(
 simp only[zP,i64_w,i32_w]
 rfl)
 refine take_ (i:=19) (N:=some 55) (v:=?_) (a':=?_) (bN 30 37748735) rfl rfl (take_ofW c.out D.out (by kernel_rfl)) (fun _ _ _ h=>h) (Or.inl ⟨by rfl,?_⟩) hHeld ?_ ?_
 rotate_left
 ·(
 rintro w' ⟨J,L,M,O,P,Q,R,T,U,V,Y,Z,aR,aS,aT,aU,aV,aW,aX,aY,aZ,a0,a1,a2⟩
 go_simp
 with_reducible rfl)
 rotate_left
 ·(
 simp only[zP,i64_w,i32_w]
 rfl)
 refine pure_ (i:=22) (N:=some 58) (v:=?_) (a':=?_) (bN 30 41943039) rfl rfl (any_of c.out (by kernel_rfl)) (fun _ _ _ h=>h) (Or.inl ⟨by rfl,?_⟩) ?_ ?_
 rotate_left
 ·(
 intro w'
 go_simp
 with_reducible rfl)
 rotate_left
 ·(
 simp only[zP,i64_w,i32_w]
 rfl)
 refine pure_ (i:=23) (N:=some 59) (v:=?_) (a':=?_) (bN 30 50331647) rfl rfl (any_of c.out (by kernel_rfl)) (fun _ _ _ h=>h) (Or.inl ⟨by rfl,?_⟩) ?_ ?_
 rotate_left
 ·(
 intro w'
 go_simp
 with_reducible rfl)
 rotate_left
 ·(
 simp only[zP,i64_w,i32_w]
 rfl)
 refine take_ (i:=24) (N:=some 60) (v:=?_) (a':=?_) (bN 30 67108863) rfl rfl (take_ofW c.out D.out (by kernel_rfl)) (fun _ _ _ h=>h) (Or.inl ⟨by rfl,?_⟩) hHeld ?_ ?_
 rotate_left
 ·(
 rintro w' ⟨J,L,M,O,P,Q,R,T,U,V,Y,Z,aR,aS,aT,aU,aV,aW,aX,aY,aZ,a0,a1,a2⟩
 go_simp
 with_reducible rfl)
 rotate_left
 ·(
 simp only[zP,i64_w,i32_w]
 rfl)
 refine take_ (i:=26) (N:=some 62) (v:=?_) (a':=?_) (bN 30 134217727) rfl rfl (take_ofW c.out D.out (by kernel_rfl)) (fun _ _ _ h=>h) (Or.inl ⟨by rfl,?_⟩) hHeld ?_ ?_
 rotate_left
 ·(
 rintro w' ⟨J,L,M,O,P,Q,R,T,U,V,Y,Z,aR,aS,aT,aU,aV,aW,aX,aY,aZ,a0,a1,a2⟩
 go_simp
 with_reducible rfl)
 rotate_left
 ·(
 simp only[zP,i64_w,i32_w]
 rfl)
 refine pure_ (i:=27) (N:=some 63) (v:=?_) (a':=?_) (bN 30 268435455) rfl rfl (any_of c.out (by kernel_rfl)) (fun _ _ _ h=>h) (Or.inl ⟨by rfl,?_⟩) ?_ ?_
 rotate_left
 ·(
 intro w'
 go_simp
 with_reducible rfl)
 rotate_left
 ·(
 simp only[zP,i64_w,i32_w]
 rfl)
 refine pure_ (i:=28) (N:=some 64) (v:=?_) (a':=?_) (bN 30 536870911) rfl rfl (any_of c.out (by kernel_rfl)) (fun _ _ _ h=>h) (Or.inl ⟨by rfl,?_⟩) ?_ ?_
 rotate_left
 ·(
 intro w'
 go_simp
 with_reducible rfl)
 rotate_left
 ·(
 simp only[zP,i64_w,i32_w]
 rfl)
 refine pure_ (i:=29) (N:=some 65) (v:=?_) (a':=?_) (bN 30 1073741823) rfl rfl (any_of c.out (by kernel_rfl)) (fun _ _ _ h=>h) (Or.inl ⟨by rfl,?_⟩) ?_ ?_
 rotate_left
 ·(
 intro w'
 go_simp
 with_reducible rfl)
 rotate_left
 ·(
 simp only[zP,i64_w,i32_w]
 rfl)
 refine done_ (done_of c.out (by kernel_rfl)) ?_
 try go_wp2
 go_meet
 case rel=>exact⟨_,(decide (((rd_T56 ((rd_T34 l0 0).f1) (ji20)).f0)≥((rd_T56 ((rd_T34 l0 0).f1) a).f0))),(by first|rfl|(simp;done)|(simp only[←hji20]<;>(first|rfl|simp))|(simp[*];done)),H',⟨by have:=ak.out;have:=al.out;first|omega|exact Nat.le_refl _⟩,⟨by exact sT d.out⟩,⟨sb⟩⟩)
 rw[if_neg bv]at H
 exact absurd H (by simp))
 rw[if_neg bu]at H
 exact absurd H (by simp))
 rw[if_neg aE]at H
 have c19b0:decide (0<a)=false:=zF aE
 clear aE
 have H':=zM H
 clear H
 try go_wp2
 have E:Aside0 (((((((((((I.setCell ⟨b,0,none⟩ (.int .i64 ((rd_T56 ((rd_T34 l0 0).f1) a).f0))).setCell ⟨b,1,none⟩ (.int .i64 ((rd_T56 ((rd_T34 l0 0).f1) a).f1))).setCell ⟨b,2,none⟩ (.string ((rd_T56 ((rd_T34 l0 0).f1) a).f2))).setCell ⟨b,3,none⟩ (.int .i64 ((rd_T56 ((rd_T34 l0 0).f1) a).f3))).setCell ⟨b,4,none⟩ (.slice j ((rd_T56 ((rd_T34 l0 0).f1) a).f4).length l)).setCell ⟨b,5,none⟩ (.slice m ((rd_T56 ((rd_T34 l0 0).f1) a).f5).length o)).setCell ⟨b,6,none⟩ (.int .i64 ((rd_T56 ((rd_T34 l0 0).f1) a).f6.f0))).setCell ⟨b,7,none⟩ (.int .i64 ((rd_T56 ((rd_T34 l0 0).f1) a).f6.f1))).setCell ⟨b,8,none⟩ (.string ((rd_T56 ((rd_T34 l0 0).f1) a).f6.f2))).setCell ⟨b,9,none⟩ (.int .i64 ((rd_T56 ((rd_T34 l0 0).f1) a).f6.f3))).heap[b]?=some (.cells #[.int .i64 ((rd_T56 ((rd_T34 l0 0).f1) a).f0),.int .i64 ((rd_T56 ((rd_T34 l0 0).f1) a).f1),.string ((rd_T56 ((rd_T34 l0 0).f1) a).f2),.int .i64 ((rd_T56 ((rd_T34 l0 0).f1) a).f3),.slice j ((rd_T56 ((rd_T34 l0 0).f1) a).f4).length l,.slice m ((rd_T56 ((rd_T34 l0 0).f1) a).f5).length o,.int .i64 ((rd_T56 ((rd_T34 l0 0).f1) a).f6.f0),.int .i64 ((rd_T56 ((rd_T34 l0 0).f1) a).f6.f1),.string ((rd_T56 ((rd_T34 l0 0).f1) a).f6.f2),.int .i64 ((rd_T56 ((rd_T34 l0 0).f1) a).f6.f3)] 56 (0,0))):=⟨sP10 (sT d.out)⟩
 have F:Aside0 (Below w.heap.size w ((((((((((I.setCell ⟨b,0,none⟩ (.int .i64 ((rd_T56 ((rd_T34 l0 0).f1) a).f0))).setCell ⟨b,1,none⟩ (.int .i64 ((rd_T56 ((rd_T34 l0 0).f1) a).f1))).setCell ⟨b,2,none⟩ (.string ((rd_T56 ((rd_T34 l0 0).f1) a).f2))).setCell ⟨b,3,none⟩ (.int .i64 ((rd_T56 ((rd_T34 l0 0).f1) a).f3))).setCell ⟨b,4,none⟩ (.slice j ((rd_T56 ((rd_T34 l0 0).f1) a).f4).length l)).setCell ⟨b,5,none⟩ (.slice m ((rd_T56 ((rd_T34 l0 0).f1) a).f5).length o)).setCell ⟨b,6,none⟩ (.int .i64 ((rd_T56 ((rd_T34 l0 0).f1) a).f6.f0))).setCell ⟨b,7,none⟩ (.int .i64 ((rd_T56 ((rd_T34 l0 0).f1) a).f6.f1))).setCell ⟨b,8,none⟩ (.string ((rd_T56 ((rd_T34 l0 0).f1) a).f6.f2))).setCell ⟨b,9,none⟩ (.int .i64 ((rd_T56 ((rd_T34 l0 0).f1) a).f6.f3)))):=⟨sb⟩
 (try clear d)
 (try clear HB)
 generalize ((((((((((I.setCell ⟨b,0,none⟩ (.int .i64 ((rd_T56 ((rd_T34 l0 0).f1) a).f0))).setCell ⟨b,1,none⟩ (.int .i64 ((rd_T56 ((rd_T34 l0 0).f1) a).f1))).setCell ⟨b,2,none⟩ (.string ((rd_T56 ((rd_T34 l0 0).f1) a).f2))).setCell ⟨b,3,none⟩ (.int .i64 ((rd_T56 ((rd_T34 l0 0).f1) a).f3))).setCell ⟨b,4,none⟩ (.slice j ((rd_T56 ((rd_T34 l0 0).f1) a).f4).length l)).setCell ⟨b,5,none⟩ (.slice m ((rd_T56 ((rd_T34 l0 0).f1) a).f5).length o)).setCell ⟨b,6,none⟩ (.int .i64 ((rd_T56 ((rd_T34 l0 0).f1) a).f6.f0))).setCell ⟨b,7,none⟩ (.int .i64 ((rd_T56 ((rd_T34 l0 0).f1) a).f6.f1))).setCell ⟨b,8,none⟩ (.string ((rd_T56 ((rd_T34 l0 0).f1) a).f6.f2))).setCell ⟨b,9,none⟩ (.int .i64 ((rd_T56 ((rd_T34 l0 0).f1) a).f6.f3)))=w26 at E F ⊢
 have d:=E
 have HB:=F
 clear E F
 replace d:=zM (blk_drew d.out)
 replace HB:=zM (below_drew1 HB.out)
 have W:0≤(0:Int):=(by omega)
 have X:0<(l0.length:Int):=zzA
 obtain⟨ad227,bt,aD,aM,y,u,ap,aq⟩:=at_T34 x.out 0 W X
 have z:=u
 (try rw[sZ]at z)
 have A:=y
 (try rw[sZ]at A)
 obtain rfl:g=ad227:=(by injection aM)
 have cA:(0<l0.length)=True:=eq_true (by omega)
 (try rw[sZ]at y)
 (try rw[sZ]at u)
 replace y:=sX HB y
 replace u:=sX HB u
 have aN:=zM aq
 have cB:=zM ap
 clear aq ap
 replace W:=eq_true W
 replace X:=eq_true X
 refine start_ (n:=30) (S:=fun w'=>w'.cell? ⟨b,0,none⟩=some (.int .i64 ((rd_T56 ((rd_T34 l0 0).f1) a).f0))∧w'.cell? ⟨b,1,none⟩=some (.int .i64 ((rd_T56 ((rd_T34 l0 0).f1) a).f1))∧w'.cell? ⟨b,2,none⟩=some (.string ((rd_T56 ((rd_T34 l0 0).f1) a).f2))∧w'.cell? ⟨b,3,none⟩=some (.int .i64 ((rd_T56 ((rd_T34 l0 0).f1) a).f3))∧w'.cell? ⟨b,4,none⟩=some (.slice j ((rd_T56 ((rd_T34 l0 0).f1) a).f4).length l)∧w'.cell? ⟨b,5,none⟩=some (.slice m ((rd_T56 ((rd_T34 l0 0).f1) a).f5).length o)∧w'.cell? ⟨b,6,none⟩=some (.int .i64 ((rd_T56 ((rd_T34 l0 0).f1) a).f6.f0))∧w'.cell? ⟨b,7,none⟩=some (.int .i64 ((rd_T56 ((rd_T34 l0 0).f1) a).f6.f1))∧w'.cell? ⟨b,8,none⟩=some (.string ((rd_T56 ((rd_T34 l0 0).f1) a).f6.f2))∧w'.cell? ⟨b,9,none⟩=some (.int .i64 ((rd_T56 ((rd_T34 l0 0).f1) a).f6.f3))∧w'.cell? g=some (.int .i64 ((rd_T34 l0 0).f0))∧w'.cell? ⟨g.block,g.off+1,none⟩=some (.slice bt ((rd_T34 l0 0).f1).length aD)) (ds:=[]) #[false,false,false,false,false,false,false,false,false,false,false,false,false,false,false,false,false,false,false,false,false,false,false,false,false,false,false,false,false,false] (by kernel_rfl) rfl rfl ⟨(blk_cell d.out 0).trans rfl,(blk_cell d.out 1).trans rfl,(blk_cell d.out 2).trans rfl,(blk_cell d.out 3).trans rfl,(blk_cell d.out 4).trans rfl,(blk_cell d.out 5).trans rfl,(blk_cell d.out 6).trans rfl,(blk_cell d.out 7).trans rfl,(blk_cell d.out 8).trans rfl,(blk_cell d.out 9).trans rfl,((HB.out.cell (zL w _ A)).trans A),((HB.out.cell (zL w _ z)).trans z)⟩ (fun hHeld=>?_);refine with_tabW spec_l07Ok.tab7 spec_l07Ok.bits7 (fun c D=>?_)
 generalize w26.drew=w27 at d HB aN y u hHeld ⊢
 refine take_ (i:=0) (N:=some 36) (v:=?_) (a':=?_) (bN 30 1) rfl rfl (take_ofW c.out D.out (by kernel_rfl)) (fun _ _ _ h=>h) (Or.inl ⟨by rfl,?_⟩) hHeld ?_ ?_
 rotate_left
 ·(
 rintro w' ⟨J,L,M,O,P,Q,R,T,U,V,Y,Z⟩
 go_simp
 with_reducible rfl)
 rotate_left
 ·(
 simp only[zP,i64_w,i32_w]
 rfl)
 refine one_ (i:=1) (N:=some 37) (bN 30 3) rfl rfl (one_of c.out (by kernel_rfl)) (by decide) (fun K hK=>?_)
 refine goes_ Try.func61 (by kernel_rfl) rfl #[.agg #[.int .i64 ((rd_T56 ((rd_T34 l0 0).f1) a).f0),.int .i64 ((rd_T56 ((rd_T34 l0 0).f1) a).f1),.string ((rd_T56 ((rd_T34 l0 0).f1) a).f2),.int .i64 ((rd_T56 ((rd_T34 l0 0).f1) a).f3),.slice j ((rd_T56 ((rd_T34 l0 0).f1) a).f4).length l,.slice m ((rd_T56 ((rd_T34 l0 0).f1) a).f5).length o,.int .i64 ((rd_T56 ((rd_T34 l0 0).f1) a).f6.f0),.int .i64 ((rd_T56 ((rd_T34 l0 0).f1) a).f6.f1),.string ((rd_T56 ((rd_T34 l0 0).f1) a).f6.f2),.int .i64 ((rd_T56 ((rd_T34 l0 0).f1) a).f6.f3)]] (by rfl) rfl rfl (by(try simp only[List.map_toArray,List.map_cons,List.map_nil]);first|done|rfl|(simp only[List.length_drop,List.length_take];rfl)) ?_
 with_reducible refine(spec_l07Object.calls k2 ((rd_T56 ((rd_T34 l0 0).f1) a).f0) ((rd_T56 ((rd_T34 l0 0).f1) a).f1) ((rd_T56 ((rd_T34 l0 0).f1) a).f2) ((rd_T56 ((rd_T34 l0 0).f1) a).f3) _ _ ((rd_T56 ((rd_T34 l0 0).f1) a).f4) _ _ ((rd_T56 ((rd_T34 l0 0).f1) a).f5) ((rd_T56 ((rd_T34 l0 0).f1) a).f6.f0) ((rd_T56 ((rd_T34 l0 0).f1) a).f6.f1) ((rd_T56 ((rd_T34 l0 0).f1) a).f6.f2) ((rd_T56 ((rd_T34 l0 0).f1) a).f6.f3) true _ ?side1 ?side2 ?side3 ?side4 aL.out).mono ?_
 (case side1=>exact sD (zC bn.out HB.out))
 (case side2=>exact bo.out)
 (case side3=>exact sD (zC bp.out HB.out))
 (case side4=>exact bq.out)
 rintro e eh ⟨rfl,hb⟩
 refine⟨_,rfl,?_⟩
 replace d:=sK d hb
 replace HB:=sB HB hb
 (try clear hb)
 (try clear hb2)
 (try clear hk)
 (try clear hi)
 refine hK.out _ _ ⟨(blk_cell d.out 0).trans rfl,(blk_cell d.out 1).trans rfl,(blk_cell d.out 2).trans rfl,(blk_cell d.out 3).trans rfl,(blk_cell d.out 4).trans rfl,(blk_cell d.out 5).trans rfl,(blk_cell d.out 6).trans rfl,(blk_cell d.out 7).trans rfl,(blk_cell d.out 8).trans rfl,(blk_cell d.out 9).trans rfl,((HB.out.cell (zL w _ A)).trans A),((HB.out.cell (zL w _ z)).trans z)⟩ (fun hHeld=>?_)
 clear hK K
 refine norm_ (a':=?_) ?_ ?_
 rotate_left
 ·(
 show Act.put _ (some 37) _=_
 simp only[zP,i64_w,i32_w]
 rfl)
 refine pure_ (i:=2) (N:=some 38) (v:=?_) (a':=?_) (bN 30 7) rfl rfl (any_of c.out (by kernel_rfl)) (fun _ _ _ h=>h) (Or.inl ⟨by rfl,?_⟩) ?_ ?_
 rotate_left
 ·(
 intro w'
 go_simp
 with_reducible rfl)
 rotate_left
 ·(
 simp only[zP,i64_w,i32_w]
 rfl)
 refine pure_ (i:=3) (N:=some 39) (v:=?_) (a':=?_) (bN 30 15) rfl rfl (any_of c.out (by kernel_rfl)) (fun _ _ _ h=>h) (Or.inl ⟨by rfl,?_⟩) ?_ ?_
 rotate_left
 ·(
 intro w'
 go_simp
 with_reducible rfl)
 rotate_left
 ·(
 simp only[zP,i64_w,i32_w]
 rfl)
 refine pure_ (i:=4) (N:=some 40) (v:=?_) (a':=?_) (bN 30 31) rfl rfl (any_of c.out (by kernel_rfl)) (fun _ _ _ h=>h) (Or.inl ⟨by rfl,?_⟩) ?_ ?_
 rotate_left
 ·(
 intro w'
 go_simp
 with_reducible rfl)
 rotate_left
 ·(
 simp only[zP,i64_w,i32_w]
 rfl)
 refine pure_ (i:=6) (N:=some 42) (v:=?_) (a':=?_) (bN 30 95) rfl rfl (any_of c.out (by kernel_rfl)) (fun _ _ _ h=>h) (Or.inl ⟨by rfl,?_⟩) ?_ ?_
 rotate_left
 ·(
 intro w'
 go_simp
 with_reducible rfl)
 rotate_left
 ·(
 simp only[zP,i64_w,i32_w]
 rfl)
 refine pure_ (i:=7) (N:=some 43) (v:=?_) (a':=?_) (bN 30 223) rfl rfl (any_of c.out (by kernel_rfl)) (fun _ _ _ h=>h) (Or.inl ⟨by rfl,?_⟩) ?_ ?_
 rotate_left
 ·(
 intro w'
 go_simp
 with_reducible rfl)
 rotate_left
 ·(
 simp only[zP,i64_w,i32_w]
 rfl)
 refine pure_ (i:=8) (N:=some 44) (v:=?_) (a':=?_) (bN 30 479) rfl rfl (any_of c.out (by kernel_rfl)) (fun _ _ _ h=>h) (Or.inl ⟨by rfl,?_⟩) ?_ ?_
 rotate_left
 ·(
 intro w'
 go_simp
 with_reducible rfl)
 rotate_left
 ·(
 simp only[zP,i64_w,i32_w]
 rfl)
 refine take_ (i:=5) (N:=some 41) (v:=?_) (a':=?_) (bN 30 511) rfl rfl (take_ofW c.out D.out (by kernel_rfl)) (fun _ _ _ h=>h) (Or.inl ⟨by rfl,?_⟩) hHeld ?_ ?_
 rotate_left
 ·(
 rintro w' ⟨J,L,M,O,P,Q,R,T,U,V,Y,Z⟩
 go_simp
 with_reducible rfl)
 rotate_left
 ·(
 simp only[zP,i64_w,i32_w]
 rfl)
 refine take_ (i:=9) (N:=some 45) (v:=?_) (a':=?_) (bN 30 1023) rfl rfl (take_ofW c.out D.out (by kernel_rfl)) (fun _ _ _ h=>h) (Or.inl ⟨by rfl,?_⟩) hHeld ?_ ?_
 rotate_left
 ·(
 rintro w' ⟨J,L,M,O,P,Q,R,T,U,V,Y,Z⟩
 go_simp
 with_reducible rfl)
 rotate_left
 ·(
 simp only[zP,i64_w,i32_w]
 rfl)
 refine pure_ (i:=10) (N:=some 46) (v:=?_) (a':=?_) (bN 30 2047) rfl rfl (any_of c.out (by kernel_rfl)) (fun _ _ _ h=>h) (Or.inl ⟨by rfl,?_⟩) ?_ ?_
 rotate_left
 ·(
 intro w'
 go_simp
 with_reducible rfl)
 rotate_left
 ·(
 simp only[zP,i64_w,i32_w]
 rfl)
 refine pure_ (i:=11) (N:=some 47) (v:=?_) (a':=?_) (bN 30 4095) rfl rfl (any_of c.out (by kernel_rfl)) (fun _ _ _ h=>h) (Or.inl ⟨by rfl,?_⟩) ?_ ?_
 rotate_left
 ·(
 intro w'
 go_simp
 with_reducible rfl)
 rotate_left
 ·(
 simp only[zP,i64_w,i32_w]
 rfl)
 refine pure_ (i:=12) (N:=some 48) (v:=?_) (a':=?_) (bN 30 8191) rfl rfl (any_of c.out (by kernel_rfl)) (fun _ _ _ h=>h) (Or.inl ⟨by rfl,?_⟩) ?_ ?_
 rotate_left
 ·(
 intro w'
 go_simp
 with_reducible rfl)
 rotate_left
 ·(
 simp only[zP,i64_w,i32_w]
 rfl)
 refine pure_ (i:=13) (N:=some 49) (v:=?_) (a':=?_) (bN 30 16383) rfl rfl (any_of c.out (by kernel_rfl)) (fun _ _ _ h=>h) (Or.inl ⟨by rfl,?_⟩) ?_ ?_
 rotate_left
 ·(
 intro w'
 go_simp
 with_reducible rfl)
 rotate_left
 ·(
 simp only[zP,i64_w,i32_w]
 rfl)
 refine pure_ (i:=14) (N:=some 50) (v:=?_) (a':=?_) (bN 30 32767) rfl rfl (any_of c.out (by kernel_rfl)) (fun _ _ _ h=>h) (Or.inl ⟨by rfl,?_⟩) ?_ ?_
 rotate_left
 ·(
 intro w'
 go_simp
 with_reducible rfl)
 rotate_left
 ·(
 simp only[zP,i64_w,i32_w]
 rfl)
 refine pure_ (i:=15) (N:=some 51) (v:=?_) (a':=?_) (bN 30 65535) rfl rfl (any_of c.out (by kernel_rfl)) (fun _ _ _ h=>h) (Or.inl ⟨by rfl,?_⟩) ?_ ?_
 rotate_left
 ·(
 intro w'
 go_simp
 with_reducible rfl)
 rotate_left
 ·(
 simp only[zP,i64_w,i32_w]
 rfl)
 refine pure_ (i:=16) (N:=some 52) (v:=undef) (a':=?_) (bN 30 131071) rfl rfl (any_of c.out (by kernel_rfl)) (fun _ _ _ h=>h) (Or.inr ⟨by rfl,rfl⟩) ?_ ?_
 rotate_left
 ·(
 simp only[zP,i64_w,i32_w]
 rfl)
 refine pure_ (i:=17) (N:=some 53) (v:=undef) (a':=?_) (bN 30 262143) rfl rfl (any_of c.out (by kernel_rfl)) (fun _ _ _ h=>h) (Or.inr ⟨by rfl,rfl⟩) ?_ ?_
 rotate_left
 ·(
 simp only[zP,i64_w,i32_w]
 rfl)
 refine pure_ (i:=18) (N:=some 54) (v:=undef) (a':=?_) (bN 30 524287) rfl rfl (any_of c.out (by kernel_rfl)) (fun _ _ _ h=>h) (Or.inr ⟨by rfl,rfl⟩) ?_ ?_
 rotate_left
 ·(
 simp only[zP,i64_w,i32_w]
 rfl)
 refine pure_ (i:=19) (N:=some 55) (v:=undef) (a':=?_) (bN 30 1048575) rfl rfl (any_of c.out (by kernel_rfl)) (fun _ _ _ h=>h) (Or.inr ⟨by rfl,rfl⟩) ?_ ?_
 rotate_left
 ·(
 simp only[zP,i64_w,i32_w]
 rfl)
 refine pure_ (i:=20) (N:=some 56) (v:=undef) (a':=?_) (bN 30 2097151) rfl rfl (any_of c.out (by kernel_rfl)) (fun _ _ _ h=>h) (Or.inr ⟨by rfl,rfl⟩) ?_ ?_
 rotate_left
 ·(
 simp only[zP,i64_w,i32_w]
 rfl)
 refine pure_ (i:=21) (N:=some 57) (v:=undef) (a':=?_) (bN 30 4194303) rfl rfl (any_of c.out (by kernel_rfl)) (fun _ _ _ h=>h) (Or.inr ⟨by rfl,rfl⟩) ?_ ?_
 rotate_left
 ·(
 simp only[zP,i64_w,i32_w]
 rfl)
 refine pure_ (i:=22) (N:=some 58) (v:=undef) (a':=?_) (bN 30 8388607) rfl rfl (any_of c.out (by kernel_rfl)) (fun _ _ _ h=>h) (Or.inr ⟨by rfl,rfl⟩) ?_ ?_
 rotate_left
 ·(
 simp only[zP,i64_w,i32_w]
 rfl)
 refine pure_ (i:=23) (N:=some 59) (v:=undef) (a':=?_) (bN 30 16777215) rfl rfl (any_of c.out (by kernel_rfl)) (fun _ _ _ h=>h) (Or.inr ⟨by rfl,rfl⟩) ?_ ?_
 rotate_left
 ·(
 simp only[zP,i64_w,i32_w]
 rfl)
 refine pure_ (i:=24) (N:=some 60) (v:=undef) (a':=?_) (bN 30 33554431) rfl rfl (any_of c.out (by kernel_rfl)) (fun _ _ _ h=>h) (Or.inr ⟨by rfl,rfl⟩) ?_ ?_
 rotate_left
 ·(
 simp only[zP,i64_w,i32_w]
 rfl)
 refine pure_ (i:=25) (N:=some 61) (v:=undef) (a':=?_) (bN 30 67108863) rfl rfl (any_of c.out (by kernel_rfl)) (fun _ _ _ h=>h) (Or.inr ⟨by rfl,rfl⟩) ?_ ?_
 rotate_left
 ·(
 simp only[zP,i64_w,i32_w]
 rfl)
 refine pure_ (i:=26) (N:=some 62) (v:=undef) (a':=?_) (bN 30 134217727) rfl rfl (any_of c.out (by kernel_rfl)) (fun _ _ _ h=>h) (Or.inr ⟨by rfl,rfl⟩) ?_ ?_
 rotate_left
 ·(
 simp only[zP,i64_w,i32_w]
 rfl)
 refine pure_ (i:=27) (N:=some 63) (v:=undef) (a':=?_) (bN 30 268435455) rfl rfl (any_of c.out (by kernel_rfl)) (fun _ _ _ h=>h) (Or.inr ⟨by rfl,rfl⟩) ?_ ?_
 rotate_left
 ·(
 simp only[zP,i64_w,i32_w]
 rfl)
 refine pure_ (i:=28) (N:=some 64) (v:=?_) (a':=?_) (bN 30 536870911) rfl rfl (any_of c.out (by kernel_rfl)) (fun _ _ _ h=>h) (Or.inl ⟨by rfl,?_⟩) ?_ ?_
 rotate_left
 ·(
 intro w'
 go_simp
 with_reducible rfl)
 rotate_left
 ·(
 simp only[zP,i64_w,i32_w]
 rfl)
 refine pure_ (i:=29) (N:=some 65) (v:=?_) (a':=?_) (bN 30 1073741823) rfl rfl (any_of c.out (by kernel_rfl)) (fun _ _ _ h=>h) (Or.inl ⟨by rfl,?_⟩) ?_ ?_
 rotate_left
 ·(
 intro w'
 go_simp
 with_reducible rfl)
 rotate_left
 ·(
 simp only[zP,i64_w,i32_w]
 rfl)
 refine done_ (done_of c.out (by kernel_rfl)) ?_
 try go_wp2
 go_meet
 case rel=>exact⟨_,(false),sr,H',⟨by have:=ak.out;have:=al.out;first|omega|exact Nat.le_refl _⟩,⟨by exact sT d.out⟩,⟨sb⟩⟩)
 replace bs:=zB bs
 subst bs
 rewrite[if_neg zQ]at H
 have H':=zM H
 clear H
 try go_wp2
 have E:Aside0 (((((((((((I.setCell ⟨b,0,none⟩ (.int .i64 ((rd_T56 ((rd_T34 l0 0).f1) a).f0))).setCell ⟨b,1,none⟩ (.int .i64 ((rd_T56 ((rd_T34 l0 0).f1) a).f1))).setCell ⟨b,2,none⟩ (.string ((rd_T56 ((rd_T34 l0 0).f1) a).f2))).setCell ⟨b,3,none⟩ (.int .i64 ((rd_T56 ((rd_T34 l0 0).f1) a).f3))).setCell ⟨b,4,none⟩ (.slice j ((rd_T56 ((rd_T34 l0 0).f1) a).f4).length l)).setCell ⟨b,5,none⟩ (.slice m ((rd_T56 ((rd_T34 l0 0).f1) a).f5).length o)).setCell ⟨b,6,none⟩ (.int .i64 ((rd_T56 ((rd_T34 l0 0).f1) a).f6.f0))).setCell ⟨b,7,none⟩ (.int .i64 ((rd_T56 ((rd_T34 l0 0).f1) a).f6.f1))).setCell ⟨b,8,none⟩ (.string ((rd_T56 ((rd_T34 l0 0).f1) a).f6.f2))).setCell ⟨b,9,none⟩ (.int .i64 ((rd_T56 ((rd_T34 l0 0).f1) a).f6.f3))).heap[b]?=some (.cells #[.int .i64 ((rd_T56 ((rd_T34 l0 0).f1) a).f0),.int .i64 ((rd_T56 ((rd_T34 l0 0).f1) a).f1),.string ((rd_T56 ((rd_T34 l0 0).f1) a).f2),.int .i64 ((rd_T56 ((rd_T34 l0 0).f1) a).f3),.slice j ((rd_T56 ((rd_T34 l0 0).f1) a).f4).length l,.slice m ((rd_T56 ((rd_T34 l0 0).f1) a).f5).length o,.int .i64 ((rd_T56 ((rd_T34 l0 0).f1) a).f6.f0),.int .i64 ((rd_T56 ((rd_T34 l0 0).f1) a).f6.f1),.string ((rd_T56 ((rd_T34 l0 0).f1) a).f6.f2),.int .i64 ((rd_T56 ((rd_T34 l0 0).f1) a).f6.f3)] 56 (0,0))):=⟨sP10 (sT d.out)⟩
 have F:Aside0 (Below w.heap.size w ((((((((((I.setCell ⟨b,0,none⟩ (.int .i64 ((rd_T56 ((rd_T34 l0 0).f1) a).f0))).setCell ⟨b,1,none⟩ (.int .i64 ((rd_T56 ((rd_T34 l0 0).f1) a).f1))).setCell ⟨b,2,none⟩ (.string ((rd_T56 ((rd_T34 l0 0).f1) a).f2))).setCell ⟨b,3,none⟩ (.int .i64 ((rd_T56 ((rd_T34 l0 0).f1) a).f3))).setCell ⟨b,4,none⟩ (.slice j ((rd_T56 ((rd_T34 l0 0).f1) a).f4).length l)).setCell ⟨b,5,none⟩ (.slice m ((rd_T56 ((rd_T34 l0 0).f1) a).f5).length o)).setCell ⟨b,6,none⟩ (.int .i64 ((rd_T56 ((rd_T34 l0 0).f1) a).f6.f0))).setCell ⟨b,7,none⟩ (.int .i64 ((rd_T56 ((rd_T34 l0 0).f1) a).f6.f1))).setCell ⟨b,8,none⟩ (.string ((rd_T56 ((rd_T34 l0 0).f1) a).f6.f2))).setCell ⟨b,9,none⟩ (.int .i64 ((rd_T56 ((rd_T34 l0 0).f1) a).f6.f3)))):=⟨sb⟩
 (try clear d)
 (try clear HB)
 generalize ((((((((((I.setCell ⟨b,0,none⟩ (.int .i64 ((rd_T56 ((rd_T34 l0 0).f1) a).f0))).setCell ⟨b,1,none⟩ (.int .i64 ((rd_T56 ((rd_T34 l0 0).f1) a).f1))).setCell ⟨b,2,none⟩ (.string ((rd_T56 ((rd_T34 l0 0).f1) a).f2))).setCell ⟨b,3,none⟩ (.int .i64 ((rd_T56 ((rd_T34 l0 0).f1) a).f3))).setCell ⟨b,4,none⟩ (.slice j ((rd_T56 ((rd_T34 l0 0).f1) a).f4).length l)).setCell ⟨b,5,none⟩ (.slice m ((rd_T56 ((rd_T34 l0 0).f1) a).f5).length o)).setCell ⟨b,6,none⟩ (.int .i64 ((rd_T56 ((rd_T34 l0 0).f1) a).f6.f0))).setCell ⟨b,7,none⟩ (.int .i64 ((rd_T56 ((rd_T34 l0 0).f1) a).f6.f1))).setCell ⟨b,8,none⟩ (.string ((rd_T56 ((rd_T34 l0 0).f1) a).f6.f2))).setCell ⟨b,9,none⟩ (.int .i64 ((rd_T56 ((rd_T34 l0 0).f1) a).f6.f3)))=w29 at E F ⊢
 have d:=E
 have HB:=F
 clear E F
 replace d:=zM (blk_drew d.out)
 replace HB:=zM (below_drew1 HB.out)
 refine start_ (n:=30) (S:=fun w'=>w'.cell? ⟨b,0,none⟩=some (.int .i64 ((rd_T56 ((rd_T34 l0 0).f1) a).f0))∧w'.cell? ⟨b,1,none⟩=some (.int .i64 ((rd_T56 ((rd_T34 l0 0).f1) a).f1))∧w'.cell? ⟨b,2,none⟩=some (.string ((rd_T56 ((rd_T34 l0 0).f1) a).f2))∧w'.cell? ⟨b,3,none⟩=some (.int .i64 ((rd_T56 ((rd_T34 l0 0).f1) a).f3))∧w'.cell? ⟨b,4,none⟩=some (.slice j ((rd_T56 ((rd_T34 l0 0).f1) a).f4).length l)∧w'.cell? ⟨b,5,none⟩=some (.slice m ((rd_T56 ((rd_T34 l0 0).f1) a).f5).length o)∧w'.cell? ⟨b,6,none⟩=some (.int .i64 ((rd_T56 ((rd_T34 l0 0).f1) a).f6.f0))∧w'.cell? ⟨b,7,none⟩=some (.int .i64 ((rd_T56 ((rd_T34 l0 0).f1) a).f6.f1))∧w'.cell? ⟨b,8,none⟩=some (.string ((rd_T56 ((rd_T34 l0 0).f1) a).f6.f2))∧w'.cell? ⟨b,9,none⟩=some (.int .i64 ((rd_T56 ((rd_T34 l0 0).f1) a).f6.f3))) (ds:=[]) #[false,false,false,false,false,false,false,false,false,false,false,false,false,false,false,false,false,false,false,false,false,false,false,false,false,false,false,false,false,false] (by kernel_rfl) rfl rfl ⟨(blk_cell d.out 0).trans rfl,(blk_cell d.out 1).trans rfl,(blk_cell d.out 2).trans rfl,(blk_cell d.out 3).trans rfl,(blk_cell d.out 4).trans rfl,(blk_cell d.out 5).trans rfl,(blk_cell d.out 6).trans rfl,(blk_cell d.out 7).trans rfl,(blk_cell d.out 8).trans rfl,(blk_cell d.out 9).trans rfl⟩ (fun hHeld=>?_);refine with_tabW spec_l07Ok.tab7 spec_l07Ok.bits7 (fun c D=>?_)
 generalize w29.drew=w30 at d HB hHeld ⊢
 refine take_ (i:=0) (N:=some 36) (v:=?_) (a':=?_) (bN 30 1) rfl rfl (take_ofW c.out D.out (by kernel_rfl)) (fun _ _ _ h=>h) (Or.inl ⟨by rfl,?_⟩) hHeld ?_ ?_
 rotate_left
 ·(
 rintro w' ⟨J,L,M,O,P,Q,R,T,U,V⟩
 go_simp
 with_reducible rfl)
 rotate_left
 ·(
 simp only[zP,i64_w,i32_w]
 rfl)
 refine one_ (i:=1) (N:=some 37) (bN 30 3) rfl rfl (one_of c.out (by kernel_rfl)) (by decide) (fun K hK=>?_)
 refine goes_ Try.func61 (by kernel_rfl) rfl #[.agg #[.int .i64 ((rd_T56 ((rd_T34 l0 0).f1) a).f0),.int .i64 ((rd_T56 ((rd_T34 l0 0).f1) a).f1),.string ((rd_T56 ((rd_T34 l0 0).f1) a).f2),.int .i64 ((rd_T56 ((rd_T34 l0 0).f1) a).f3),.slice j ((rd_T56 ((rd_T34 l0 0).f1) a).f4).length l,.slice m ((rd_T56 ((rd_T34 l0 0).f1) a).f5).length o,.int .i64 ((rd_T56 ((rd_T34 l0 0).f1) a).f6.f0),.int .i64 ((rd_T56 ((rd_T34 l0 0).f1) a).f6.f1),.string ((rd_T56 ((rd_T34 l0 0).f1) a).f6.f2),.int .i64 ((rd_T56 ((rd_T34 l0 0).f1) a).f6.f3)]] (by rfl) rfl rfl (by(try simp only[List.map_toArray,List.map_cons,List.map_nil]);first|done|rfl|(simp only[List.length_drop,List.length_take];rfl)) ?_
 with_reducible refine(spec_l07Object.calls k2 ((rd_T56 ((rd_T34 l0 0).f1) a).f0) ((rd_T56 ((rd_T34 l0 0).f1) a).f1) ((rd_T56 ((rd_T34 l0 0).f1) a).f2) ((rd_T56 ((rd_T34 l0 0).f1) a).f3) _ _ ((rd_T56 ((rd_T34 l0 0).f1) a).f4) _ _ ((rd_T56 ((rd_T34 l0 0).f1) a).f5) ((rd_T56 ((rd_T34 l0 0).f1) a).f6.f0) ((rd_T56 ((rd_T34 l0 0).f1) a).f6.f1) ((rd_T56 ((rd_T34 l0 0).f1) a).f6.f2) ((rd_T56 ((rd_T34 l0 0).f1) a).f6.f3) false _ ?side1 ?side2 ?side3 ?side4 aL.out).mono ?_
 (case side1=>exact sD (zC bn.out HB.out))
 (case side2=>exact bo.out)
 (case side3=>exact sD (zC bp.out HB.out))
 (case side4=>exact bq.out)
 rintro e ei ⟨rfl,hb⟩
 refine⟨_,rfl,?_⟩
 replace d:=sK d hb
 replace HB:=sB HB hb
 (try clear hb)
 (try clear hb2)
 (try clear hk)
 (try clear hi)
 refine hK.out _ _ ⟨(blk_cell d.out 0).trans rfl,(blk_cell d.out 1).trans rfl,(blk_cell d.out 2).trans rfl,(blk_cell d.out 3).trans rfl,(blk_cell d.out 4).trans rfl,(blk_cell d.out 5).trans rfl,(blk_cell d.out 6).trans rfl,(blk_cell d.out 7).trans rfl,(blk_cell d.out 8).trans rfl,(blk_cell d.out 9).trans rfl⟩ (fun hHeld=>?_)
 clear hK K
 refine norm_ (a':=?_) ?_ ?_
 rotate_left
 ·(
 show Act.put _ (some 37) _=_
 simp only[zP,i64_w,i32_w]
 rfl)
 refine pure_ (i:=2) (N:=some 38) (v:=?_) (a':=?_) (bN 30 7) rfl rfl (any_of c.out (by kernel_rfl)) (fun _ _ _ h=>h) (Or.inl ⟨by rfl,?_⟩) ?_ ?_
 rotate_left
 ·(
 intro w'
 go_simp
 with_reducible rfl)
 rotate_left
 ·(
 simp only[zP,i64_w,i32_w]
 rfl)
 refine pure_ (i:=3) (N:=some 39) (v:=?_) (a':=?_) (bN 30 15) rfl rfl (any_of c.out (by kernel_rfl)) (fun _ _ _ h=>h) (Or.inl ⟨by rfl,?_⟩) ?_ ?_
 rotate_left
 ·(
 intro w'
 go_simp
 with_reducible rfl)
 rotate_left
 ·(
 simp only[zP,i64_w,i32_w]
 rfl)
 refine pure_ (i:=4) (N:=some 40) (v:=undef) (a':=?_) (bN 30 31) rfl rfl (any_of c.out (by kernel_rfl)) (fun _ _ _ h=>h) (Or.inr ⟨by rfl,rfl⟩) ?_ ?_
 rotate_left
 ·(
 simp only[zP,i64_w,i32_w]
 rfl)
 refine pure_ (i:=5) (N:=some 41) (v:=undef) (a':=?_) (bN 30 63) rfl rfl (any_of c.out (by kernel_rfl)) (fun _ _ _ h=>h) (Or.inr ⟨by rfl,rfl⟩) ?_ ?_
 rotate_left
 ·(
 simp only[zP,i64_w,i32_w]
 rfl)
 refine pure_ (i:=6) (N:=some 42) (v:=undef) (a':=?_) (bN 30 127) rfl rfl (any_of c.out (by kernel_rfl)) (fun _ _ _ h=>h) (Or.inr ⟨by rfl,rfl⟩) ?_ ?_
 rotate_left
 ·(
 simp only[zP,i64_w,i32_w]
 rfl)
 refine pure_ (i:=7) (N:=some 43) (v:=undef) (a':=?_) (bN 30 255) rfl rfl (any_of c.out (by kernel_rfl)) (fun _ _ _ h=>h) (Or.inr ⟨by rfl,rfl⟩) ?_ ?_
 rotate_left
 ·(
 simp only[zP,i64_w,i32_w]
 rfl)
 refine pure_ (i:=8) (N:=some 44) (v:=undef) (a':=?_) (bN 30 511) rfl rfl (any_of c.out (by kernel_rfl)) (fun _ _ _ h=>h) (Or.inr ⟨by rfl,rfl⟩) ?_ ?_
 rotate_left
 ·(
 simp only[zP,i64_w,i32_w]
 rfl)
 refine pure_ (i:=9) (N:=some 45) (v:=undef) (a':=?_) (bN 30 1023) rfl rfl (any_of c.out (by kernel_rfl)) (fun _ _ _ h=>h) (Or.inr ⟨by rfl,rfl⟩) ?_ ?_
 rotate_left
 ·(
 simp only[zP,i64_w,i32_w]
 rfl)
 refine pure_ (i:=10) (N:=some 46) (v:=undef) (a':=?_) (bN 30 2047) rfl rfl (any_of c.out (by kernel_rfl)) (fun _ _ _ h=>h) (Or.inr ⟨by rfl,rfl⟩) ?_ ?_
 rotate_left
 ·(
 simp only[zP,i64_w,i32_w]
 rfl)
 refine pure_ (i:=11) (N:=some 47) (v:=?_) (a':=?_) (bN 30 4095) rfl rfl (any_of c.out (by kernel_rfl)) (fun _ _ _ h=>h) (Or.inl ⟨by rfl,?_⟩) ?_ ?_
 rotate_left
 ·(
 intro w'
 go_simp
 with_reducible rfl)
 rotate_left
 ·(
 simp only[zP,i64_w,i32_w]
 rfl)
 refine pure_ (i:=12) (N:=some 48) (v:=?_) (a':=?_) (bN 30 8191) rfl rfl (any_of c.out (by kernel_rfl)) (fun _ _ _ h=>h) (Or.inl ⟨by rfl,?_⟩) ?_ ?_
 rotate_left
 ·(
 intro w'
 go_simp
 with_reducible rfl)
 rotate_left
 ·(
 simp only[zP,i64_w,i32_w]
 rfl)
 refine pure_ (i:=13) (N:=some 49) (v:=undef) (a':=?_) (bN 30 16383) rfl rfl (any_of c.out (by kernel_rfl)) (fun _ _ _ h=>h) (Or.inr ⟨by rfl,rfl⟩) ?_ ?_
 rotate_left
 ·(
 simp only[zP,i64_w,i32_w]
 rfl)
 refine pure_ (i:=14) (N:=some 50) (v:=undef) (a':=?_) (bN 30 32767) rfl rfl (any_of c.out (by kernel_rfl)) (fun _ _ _ h=>h) (Or.inr ⟨by rfl,rfl⟩) ?_ ?_
 rotate_left
 ·(
 simp only[zP,i64_w,i32_w]
 rfl)
 refine pure_ (i:=15) (N:=some 51) (v:=undef) (a':=?_) (bN 30 65535) rfl rfl (any_of c.out (by kernel_rfl)) (fun _ _ _ h=>h) (Or.inr ⟨by rfl,rfl⟩) ?_ ?_
 rotate_left
 ·(
 simp only[zP,i64_w,i32_w]
 rfl)
 refine pure_ (i:=16) (N:=some 52) (v:=undef) (a':=?_) (bN 30 131071) rfl rfl (any_of c.out (by kernel_rfl)) (fun _ _ _ h=>h) (Or.inr ⟨by rfl,rfl⟩) ?_ ?_
 rotate_left
 ·(
 simp only[zP,i64_w,i32_w]
 rfl)
 refine pure_ (i:=17) (N:=some 53) (v:=undef) (a':=?_) (bN 30 262143) rfl rfl (any_of c.out (by kernel_rfl)) (fun _ _ _ h=>h) (Or.inr ⟨by rfl,rfl⟩) ?_ ?_
 rotate_left
 ·(
 simp only[zP,i64_w,i32_w]
 rfl)
 refine pure_ (i:=18) (N:=some 54) (v:=undef) (a':=?_) (bN 30 524287) rfl rfl (any_of c.out (by kernel_rfl)) (fun _ _ _ h=>h) (Or.inr ⟨by rfl,rfl⟩) ?_ ?_
 rotate_left
 ·(
 simp only[zP,i64_w,i32_w]
 rfl)
 refine pure_ (i:=19) (N:=some 55) (v:=undef) (a':=?_) (bN 30 1048575) rfl rfl (any_of c.out (by kernel_rfl)) (fun _ _ _ h=>h) (Or.inr ⟨by rfl,rfl⟩) ?_ ?_
 rotate_left
 ·(
 simp only[zP,i64_w,i32_w]
 rfl)
 refine pure_ (i:=20) (N:=some 56) (v:=undef) (a':=?_) (bN 30 2097151) rfl rfl (any_of c.out (by kernel_rfl)) (fun _ _ _ h=>h) (Or.inr ⟨by rfl,rfl⟩) ?_ ?_
 rotate_left
 ·(
 simp only[zP,i64_w,i32_w]
 rfl)
 refine pure_ (i:=21) (N:=some 57) (v:=undef) (a':=?_) (bN 30 4194303) rfl rfl (any_of c.out (by kernel_rfl)) (fun _ _ _ h=>h) (Or.inr ⟨by rfl,rfl⟩) ?_ ?_
 rotate_left
 ·(
 simp only[zP,i64_w,i32_w]
 rfl)
 refine pure_ (i:=22) (N:=some 58) (v:=undef) (a':=?_) (bN 30 8388607) rfl rfl (any_of c.out (by kernel_rfl)) (fun _ _ _ h=>h) (Or.inr ⟨by rfl,rfl⟩) ?_ ?_
 rotate_left
 ·(
 simp only[zP,i64_w,i32_w]
 rfl)
 refine pure_ (i:=23) (N:=some 59) (v:=undef) (a':=?_) (bN 30 16777215) rfl rfl (any_of c.out (by kernel_rfl)) (fun _ _ _ h=>h) (Or.inr ⟨by rfl,rfl⟩) ?_ ?_
 rotate_left
 ·(
 simp only[zP,i64_w,i32_w]
 rfl)
 refine pure_ (i:=24) (N:=some 60) (v:=undef) (a':=?_) (bN 30 33554431) rfl rfl (any_of c.out (by kernel_rfl)) (fun _ _ _ h=>h) (Or.inr ⟨by rfl,rfl⟩) ?_ ?_
 rotate_left
 ·(
 simp only[zP,i64_w,i32_w]
 rfl)
 refine pure_ (i:=25) (N:=some 61) (v:=undef) (a':=?_) (bN 30 67108863) rfl rfl (any_of c.out (by kernel_rfl)) (fun _ _ _ h=>h) (Or.inr ⟨by rfl,rfl⟩) ?_ ?_
 rotate_left
 ·(
 simp only[zP,i64_w,i32_w]
 rfl)
 refine pure_ (i:=26) (N:=some 62) (v:=undef) (a':=?_) (bN 30 134217727) rfl rfl (any_of c.out (by kernel_rfl)) (fun _ _ _ h=>h) (Or.inr ⟨by rfl,rfl⟩) ?_ ?_
 rotate_left
 ·(
 simp only[zP,i64_w,i32_w]
 rfl)
 refine pure_ (i:=27) (N:=some 63) (v:=undef) (a':=?_) (bN 30 268435455) rfl rfl (any_of c.out (by kernel_rfl)) (fun _ _ _ h=>h) (Or.inr ⟨by rfl,rfl⟩) ?_ ?_
 rotate_left
 ·(
 simp only[zP,i64_w,i32_w]
 rfl)
 refine pure_ (i:=28) (N:=some 64) (v:=undef) (a':=?_) (bN 30 536870911) rfl rfl (any_of c.out (by kernel_rfl)) (fun _ _ _ h=>h) (Or.inr ⟨by rfl,rfl⟩) ?_ ?_
 rotate_left
 ·(
 simp only[zP,i64_w,i32_w]
 rfl)
 refine pure_ (i:=29) (N:=some 65) (v:=?_) (a':=?_) (bN 30 1073741823) rfl rfl (any_of c.out (by kernel_rfl)) (fun _ _ _ h=>h) (Or.inl ⟨by rfl,?_⟩) ?_ ?_
 rotate_left
 ·(
 intro w'
 go_simp
 with_reducible rfl)
 rotate_left
 ·(
 simp only[zP,i64_w,i32_w]
 rfl)
 refine done_ (done_of c.out (by kernel_rfl)) ?_
 try go_wp2
 go_meet
 case rel=>exact⟨_,(true),sr,H',⟨by have:=ak.out;have:=al.out;first|omega|exact Nat.le_refl _⟩,⟨by exact sT d.out⟩,⟨sb⟩⟩)
 case rest=>(
 clear b2
 try clear c6
 obtain⟨kq,br,rfl,HA,cJ,d,HB⟩:=hcut
 cases kq with
 |zero=>exact absurd HA.out (by simp[spec_l07Ok.j2])
 |succ kj9=>(
 have H:=HA.out
 clear HA
 simp only[spec_l07Ok.j2]at H
 by_cases bS:br=true
 ·(
 subst bS
 rewrite[if_pos rfl]at H
 obtain rfl:=zI H
 go_wp2
 go_ret
 exact⟨sq,sb⟩)
 replace bS:=zB bS
 subst bS
 rewrite[if_neg zQ]at H
 have H':=zM H
 clear H
 go_wp2
 go_roundg kj9
 case measure=>have:=ak.out;have:=al.out;have:=cJ.out;omega
 case rel=>exact⟨(wrap64 (a+1)),sr,H',⟨by have:=ak.out;have:=al.out;have:=cJ.out;omega⟩,⟨sb⟩⟩)))
 rw[if_neg c9]at H
 exact absurd H (by simp))
 rw[if_neg c8]at H
 have c8b0:=zF c8
 clear c8
 have H':=zM H
 clear H
 have am:0≤(0:Int):=(by omega)
 have an:0<(l0.length:Int):=zzA
 obtain⟨g,cY,cZ,b3,ao,ah,aJ,aK⟩:=at_T34 x.out 0 am an
 cases b3
 have c0:(0<l0.length)=True:=eq_true (by omega)
 (try rw[sZ]at ao)
 (try rw[sZ]at ah)
 replace ao:=sX HB ao
 replace ah:=sX HB ah
 have c1:=zM aK
 have c2:=zM aJ
 clear aK aJ
 replace am:=eq_true am
 replace an:=eq_true an
 go_wp2
 go_loopg [5] k2 (fun kq v5 w'=>∃(q:Int),v5= .int .i64 q∧Aside0 (spec_l07Ok.l1 kq l0 q=some r)∧Aside0 (kq≤k2)∧Aside0 (Below w.heap.size w w'))
 case atStart=>exact⟨(0),sr,H',⟨Nat.le_refl _⟩,⟨sb⟩⟩
 case round=>(
 clear H'
 try clear c6
 try clear c8
 try clear c8b0
 try clear ao
 try clear ah
 try clear am
 try clear an
 obtain⟨q,rfl,HA,cK,HB⟩:=hrel
 cases gk with
 |zero=>exact absurd HA.out (by simp[spec_l07Ok.l1])
 |succ k3=>(
 have H:=HA.out
 clear HA
 simp only[spec_l07Ok.l1]at H
 by_cases bT:0<(l0.length:Int)
 ·(
 rw[if_pos bT]at H
 have c33b0:=zT bT
 have c33b1:decide (0<l0.length)=true:=zT (by omega)
 clear bT
 by_cases aG:q<(((rd_T34 l0 0).f1).length:Int)
 ·(
 rw[if_pos aG]at H
 have c34b0:=zT aG
 clear aG
 by_cases bU:0≤q
 ·(
 rw[if_pos bU]at H
 have c35b0:=zT bU
 clear bU
 obtain⟨dm,cL,H⟩:=sO H
 by_cases bV:dm=true
 ·(
 subst bV
 rewrite[if_pos rfl]at H
 have H':=zM H
 clear H
 have aa:0≤(0:Int):=(by omega)
 have ab:0<(l0.length:Int):=zzA
 obtain⟨ad230,cM,cN,a3,ac,G,ar,au⟩:=at_T34 x.out 0 aa ab
 obtain rfl:g=ad230:=(by injection a3)
 have cO:(0<l0.length)=True:=eq_true (by omega)
 (try rw[sZ]at ac)
 (try rw[sZ]at G)
 replace ac:=sX HB ac
 replace G:=sX HB G
 have cP:=zM au
 have cQ:=zM ar
 clear au ar
 replace aa:=eq_true aa
 replace ab:=eq_true ab
 have ay:0≤(0:Int):=(by omega)
 have az:0<(l0.length:Int):=zzA
 obtain⟨ad231,dn,dp,cd,aA,ai,a4,a5⟩:=at_T34 x.out 0 ay az
 obtain rfl:g=ad231:=(by injection cd)
 have dq:(0<l0.length)=True:=eq_true (by omega)
 (try rw[sZ]at aA)
 (try rw[sZ]at ai)
 replace aA:=sX HB aA
 replace ai:=sX HB ai
 have aB:=zM a5
 have dr:=zM a4
 clear a5 a4
 replace ay:=eq_true ay
 replace az:=eq_true az
 have s:=zI (G.symm.trans ai)
 injection s with s af ag
 subst s
 subst ag
 clear af
 have ad:0≤(q:Int):=zzA
 have ae:q<(((rd_T34 l0 0).f1).length:Int):=zzA
 obtain⟨ce,dt,du,dv,dw,cf,a6,a7,a8,a9,ba,bb,bc,bd,be,bf,bg,bh,bi,bj⟩:=at_T56 aB.out q ad ae
 cases cf
 replace a6:=sX HB a6
 replace a7:=sX HB a7
 replace a8:=sX HB a8
 replace a9:=sX HB a9
 replace ba:=sX HB ba
 replace bb:=sX HB bb
 replace bc:=sX HB bc
 replace bd:=sX HB bd
 replace be:=sX HB be
 replace bf:=sX HB bf
 have dx:=zM bh
 have dy:=zM bg
 clear bh bg
 have dz:=zM bj
 have dA:=zM bi
 clear bj bi
 replace ad:=eq_true ad
 replace ae:=eq_true ae
 go_wp2_with (first|((with_reducible refine gate_callee (f:=102) rfl ?_);refine sC (some 82) Try.func102 #[.pointer (some g),.pointer (some (ce.add ((q).toNat*10)))] (spec_l07Refs.calls k3 _ l0 _ [rd_T56 ((rd_T34 l0 0).f1) q] true _ ?side1 ?side2 cL.out) ?_;(case side1=>exact sD (zC x.out HB.out));(case side2=>first|exact(C_one (by exact sD (zC aB.out HB.out)) z56 (q:Int) (of_eq_true ad) (by have B:=ae;first|exact of_eq_true B|exact B|exact zO (by assumption)))|(have B:=(C_one (by exact sD (zC aB.out HB.out)) z56 (q:Int) (of_eq_true ad) (by have B:=ae;first|exact of_eq_true B|exact B|exact zO (by assumption)));first|exact B|simpa using B));rintro e ej ⟨rfl,hb⟩;refine⟨_,rfl,?_⟩;replace HB:=sB HB hb;(try clear hb)))
 go_roundg k3
 case measure=>have:=ak.out;have:=al.out;have:=cK.out;omega
 case rel=>exact⟨(wrap64 (q+1)),sr,H',⟨by have:=ak.out;have:=al.out;have:=cK.out;omega⟩,⟨sb⟩⟩)
 replace bV:=zB bV
 subst bV
 rewrite[if_neg zQ]at H
 obtain rfl:=zI H
 have aa:0≤(0:Int):=(by omega)
 have ab:0<(l0.length:Int):=zzA
 obtain⟨ad230,cM,cN,a3,ac,G,ar,au⟩:=at_T34 x.out 0 aa ab
 obtain rfl:g=ad230:=(by injection a3)
 have cO:(0<l0.length)=True:=eq_true (by omega)
 (try rw[sZ]at ac)
 (try rw[sZ]at G)
 replace ac:=sX HB ac
 replace G:=sX HB G
 have cP:=zM au
 have cQ:=zM ar
 clear au ar
 replace aa:=eq_true aa
 replace ab:=eq_true ab
 have ay:0≤(0:Int):=(by omega)
 have az:0<(l0.length:Int):=zzA
 obtain⟨ad231,dn,dp,cd,aA,ai,a4,a5⟩:=at_T34 x.out 0 ay az
 obtain rfl:g=ad231:=(by injection cd)
 have dq:(0<l0.length)=True:=eq_true (by omega)
 (try rw[sZ]at aA)
 (try rw[sZ]at ai)
 replace aA:=sX HB aA
 replace ai:=sX HB ai
 have aB:=zM a5
 have dr:=zM a4
 clear a5 a4
 replace ay:=eq_true ay
 replace az:=eq_true az
 have s:=zI (G.symm.trans ai)
 injection s with s af ag
 subst s
 subst ag
 clear af
 have ad:0≤(q:Int):=zzA
 have ae:q<(((rd_T34 l0 0).f1).length:Int):=zzA
 obtain⟨ce,dt,du,dv,dw,cf,a6,a7,a8,a9,ba,bb,bc,bd,be,bf,bg,bh,bi,bj⟩:=at_T56 aB.out q ad ae
 cases cf
 replace a6:=sX HB a6
 replace a7:=sX HB a7
 replace a8:=sX HB a8
 replace a9:=sX HB a9
 replace ba:=sX HB ba
 replace bb:=sX HB bb
 replace bc:=sX HB bc
 replace bd:=sX HB bd
 replace be:=sX HB be
 replace bf:=sX HB bf
 have dx:=zM bh
 have dy:=zM bg
 clear bh bg
 have dz:=zM bj
 have dA:=zM bi
 clear bj bi
 replace ad:=eq_true ad
 replace ae:=eq_true ae
 go_wp2_with (first|((with_reducible refine gate_callee (f:=102) rfl ?_);refine sC (some 82) Try.func102 #[.pointer (some g),.pointer (some (ce.add ((q).toNat*10)))] (spec_l07Refs.calls k3 _ l0 _ [rd_T56 ((rd_T34 l0 0).f1) q] false _ ?side1 ?side2 cL.out) ?_;(case side1=>exact sD (zC x.out HB.out));(case side2=>first|exact(C_one (by exact sD (zC aB.out HB.out)) z56 (q:Int) (of_eq_true ad) (by have B:=ae;first|exact of_eq_true B|exact B|exact zO (by assumption)))|(have B:=(C_one (by exact sD (zC aB.out HB.out)) z56 (q:Int) (of_eq_true ad) (by have B:=ae;first|exact of_eq_true B|exact B|exact zO (by assumption)));first|exact B|simpa using B));rintro e ek ⟨rfl,hb⟩;refine⟨_,rfl,?_⟩;replace HB:=sB HB hb;(try clear hb)))
 go_ret
 exact⟨sq,sb⟩)
 rw[if_neg bU]at H
 exact absurd H (by simp))
 rw[if_neg aG]at H
 have c34b0:=zF aG
 clear aG
 obtain rfl:=zI H
 have aa:0≤(0:Int):=(by omega)
 have ab:0<(l0.length:Int):=zzA
 obtain⟨ad230,cM,cN,a3,ac,G,ar,au⟩:=at_T34 x.out 0 aa ab
 obtain rfl:g=ad230:=(by injection a3)
 have cO:(0<l0.length)=True:=eq_true (by omega)
 (try rw[sZ]at ac)
 (try rw[sZ]at G)
 replace ac:=sX HB ac
 replace G:=sX HB G
 have cP:=zM au
 have cQ:=zM ar
 clear au ar
 replace aa:=eq_true aa
 replace ab:=eq_true ab
 go_wp2
 go_ret
 exact⟨sq,sb⟩)
 rw[if_neg bT]at H
 exact absurd H (by simp))))
 rw[if_neg c7]at H
 exact absurd H (by simp)))))
end Go.Proofs.Ytengilknjiobiaa.PFnExactPairsOf
