/- Printed functions: spec_SameConsole. -/
import Derived.Test.YtnneadpahjkhgaaYSmP0
import Derived.Test.YtnneadpahjkhgaaYSmP19
namespace Go.Proofs.Ytnneadpahjkhgaa.PFnExactSameMemory
open Go.RowKit Go.Proofs.YtnneadpahjkhgaaG Go.Proofs.YtnneadpahjkhgaaW.PrintWords Go.Proofs.YtnneadpahjkhgaaW.PrintLast Go.Proofs.YtnneadpahjkhgaaW.PrintMore
attribute [local go_sem] max2_int min2_int max_two min_two max_three min_three max_four min_four
set_option linter.unusedVariables false
set_option linter.unusedSimpArgs false
mutual
def spec_SameConsole.j0 : Nat → Bool → List ByteArray → Int → List ByteArray → List (S87) → List ByteArray → List ByteArray → Int → List ByteArray → List (S87) → List ByteArray → Option (Bool)
 |0,_,_,_,_,_,_,_,_,_,_,_=>none
 |k+1,x35,x368000,x368001,x368002,x368003,x368004,x369000,x369001,x369002,x369003,x369004=>if x35=true then(some false)else(spec_SameConsole.l0 k 0 x368000 x368001 x368002 x368003 x368004 x369000 x369001 x369002 x369003 x369004)
def spec_SameConsole.l0 : Nat → Int → List ByteArray → Int → List ByteArray → List (S87) → List ByteArray → List ByteArray → Int → List ByteArray → List (S87) → List ByteArray → Option (Bool)
 |0,_,_,_,_,_,_,_,_,_,_,_=>none
 |k+1,x5,x368000,x368001,x368002,x368003,x368004,x369000,x369001,x369002,x369003,x369004=>if x5<(x368003.length:Int)then(if 0≤x5 then(if x5<(x369003.length:Int)then((spec_l21SameFile.f k ((rd_T87 x368003 x5).f0) ((rd_T87 x368003 x5).f1) ((rd_T87 x368003 x5).f2) ((rd_T87 x368003 x5).f3) ((rd_T87 x369003 x5).f0) ((rd_T87 x369003 x5).f1) ((rd_T87 x369003 x5).f2) ((rd_T87 x369003 x5).f3)).bind fun t373=>(if t373=true then(spec_SameConsole.l0 k (wrap64 (x5+1)) x368000 x368001 x368002 x368003 x368004 x369000 x369001 x369002 x369003 x369004)else(some false)))else(none))else(none))else((spec_l21SameTexts.f k x368004 x369004).bind fun t374=>(some t374))
end
def spec_SameConsole.f (k:Nat) (l0_0:List ByteArray) (a0_1:Int) (l0_2:List ByteArray) (l0_3:List (S87)) (l0_4:List ByteArray) (l1_0:List ByteArray) (a1_1:Int) (l1_2:List ByteArray) (l1_3:List (S87)) (l1_4:List ByteArray):Option (Bool):=(spec_l21SameTexts.f k l0_0 l1_0).bind fun t369=>(if t369=true then(if a0_1=a1_1 then((spec_l21SameTexts.f k l0_2 l1_2).bind fun t370=>(if t370=true then(spec_SameConsole.j0 k ((l0_3.length:Int) !=(l1_3.length:Int)) l0_0 a0_1 l0_2 l0_3 l0_4 l1_0 a1_1 l1_2 l1_3 l1_4)else(spec_SameConsole.j0 k true l0_0 a0_1 l0_2 l0_3 l0_4 l1_0 a1_1 l1_2 l1_3 l1_4)))else(spec_SameConsole.j0 k true l0_0 a0_1 l0_2 l0_3 l0_4 l1_0 a1_1 l1_2 l1_3 l1_4))else(spec_SameConsole.j0 k true l0_0 a0_1 l0_2 l0_3 l0_4 l1_0 a1_1 l1_2 l1_3 l1_4))
def spec_SameConsole.T6:Bool×List (List Nat×List Nat):=(true,[([],[]),([0],[0]),([],[]),([1,2],[1,2]),([3],[3]),([],[]),([5],[5]),([],[]),([6,7],[6,7]),([8],[8]),([4,9],[4,9]),([10],[10])])
def spec_SameConsole.B6:List Nat:=[0,1,0,7,15,0,32,0,224,480,1023,2047]
theorem spec_SameConsole.tab6:rtab .any (opsOf Try.f14 6)=spec_SameConsole.T6:=by kernel_rfl
theorem spec_SameConsole.bits6:waitsOk spec_SameConsole.T6.2 spec_SameConsole.B6=true:=by kernel_rfl
set_option maxHeartbeats 8000000 in
set_option maxRecDepth 100000 in
theorem spec_SameConsole.calls (k:Nat) (A0_0:Option Addr) (c0_0:Nat) (l0_0:List ByteArray) (a0_1:Int) (A0_2:Option Addr) (c0_2:Nat) (l0_2:List ByteArray) (A0_3:Option Addr) (c0_3:Nat) (l0_3:List (S87)) (A0_4:Option Addr) (c0_4:Nat) (l0_4:List ByteArray) (A1_0:Option Addr) (c1_0:Nat) (l1_0:List ByteArray) (a1_1:Int) (A1_2:Option Addr) (c1_2:Nat) (l1_2:List ByteArray) (A1_3:Option Addr) (c1_3:Nat) (l1_3:List (S87)) (A1_4:Option Addr) (c1_4:Nat) (l1_4:List ByteArray) (r:Bool) (w:World) (hr0_0:Kd.C Kd.string w A0_0 l0_0.length l0_0) (hc0_0:l0_0.length≤c0_0) (hr0_2:Kd.C Kd.string w A0_2 l0_2.length l0_2) (hc0_2:l0_2.length≤c0_2) (hr0_3:Kd.C k87 w A0_3 l0_3.length l0_3) (hc0_3:l0_3.length≤c0_3) (hr0_4:Kd.C Kd.string w A0_4 l0_4.length l0_4) (hc0_4:l0_4.length≤c0_4) (hr1_0:Kd.C Kd.string w A1_0 l1_0.length l1_0) (hc1_0:l1_0.length≤c1_0) (hr1_2:Kd.C Kd.string w A1_2 l1_2.length l1_2) (hc1_2:l1_2.length≤c1_2) (hr1_3:Kd.C k87 w A1_3 l1_3.length l1_3) (hc1_3:l1_3.length≤c1_3) (hr1_4:Kd.C Kd.string w A1_4 l1_4.length l1_4) (hc1_4:l1_4.length≤c1_4) (h:spec_SameConsole.f k l0_0 a0_1 l0_2 l0_3 l0_4 l1_0 a1_1 l1_2 l1_3 l1_4=some r):
  Calls Try.prog 14 #[.agg #[.slice A0_0 l0_0.length c0_0,.int .i64 a0_1,.slice A0_2 l0_2.length c0_2,.slice A0_3 l0_3.length c0_3,.slice A0_4 l0_4.length c0_4],.agg #[.slice A1_0 l1_0.length c1_0,.int .i64 a1_1,.slice A1_2 l1_2.length c1_2,.slice A1_3 l1_3.length c1_3,.slice A1_4 l1_4.length c1_4]] w fun e w'=>e= .returned (.bool r)∧Below w.heap.size w w':=by
 have a5:=Try.underlying41
 have a6:=Try.underlying87
 have aw:=zM hr0_0
 have ax:=zM hc0_0
 clear hr0_0 hc0_0
 have aO:=zM hr0_2
 have aP:=zM hc0_2
 clear hr0_2 hc0_2
 have aQ:=zM hr0_3
 have a7:=zM hc0_3
 clear hr0_3 hc0_3
 have aX:=zM hr0_4
 have aY:=zM hc0_4
 clear hr0_4 hc0_4
 have ay:=zM hr1_0
 have az:=zM hc1_0
 clear hr1_0 hc1_0
 have aR:=zM hr1_2
 have aS:=zM hc1_2
 clear hr1_2 hc1_2
 have aT:=zM hr1_3
 have a8:=zM hc1_3
 clear hr1_3 hc1_3
 have aZ:=zM hr1_4
 have a0:=zM hc1_4
 clear hr1_4 hc1_4
 have HB:=zM (Below.refl w.heap.size w)
 have H:((spec_l21SameTexts.f k l0_0 l1_0).bind fun aH=>(if aH=true then(if a0_1=a1_1 then((spec_l21SameTexts.f k l0_2 l1_2).bind fun aI=>(if aI=true then(spec_SameConsole.j0 k ((l0_3.length:Int) !=(l1_3.length:Int)) l0_0 a0_1 l0_2 l0_3 l0_4 l1_0 a1_1 l1_2 l1_3 l1_4)else(spec_SameConsole.j0 k true l0_0 a0_1 l0_2 l0_3 l0_4 l1_0 a1_1 l1_2 l1_3 l1_4)))else(spec_SameConsole.j0 k true l0_0 a0_1 l0_2 l0_3 l0_4 l1_0 a1_1 l1_2 l1_3 l1_4))else(spec_SameConsole.j0 k true l0_0 a0_1 l0_2 l0_3 l0_4 l1_0 a1_1 l1_2 l1_3 l1_4)))=some r:=h
 clear h
 have aJ:=zM H
 clear H
 go_enter Try.func14,Try.ntmps14
 go_upto_region 1 with(first|((with_reducible refine gate_dst (N:=2) rfl ?_);(try(refine gate_guard (by rfl) ?_;dsimp only));refine sV (N:=2) (cs:= #[.slice A0_0 l0_0.length c0_0,.int .i64 a0_1,.slice A0_2 l0_2.length c0_2,.slice A0_3 l0_3.length c0_3,.slice A0_4 l0_4.length c0_4]) (t:=41) ?_;intro l hg w4 hbox hb;have b:=zM (hbox);have a9:=sG HB hg;have aA:=sG HB hg;replace HB:=sB HB hb;clear hb hbox hg)|((with_reducible refine gate_dst (N:=3) rfl ?_);(try(refine gate_guard (by rfl) ?_;dsimp only));refine sV (N:=3) (cs:= #[.slice A1_0 l1_0.length c1_0,.int .i64 a1_1,.slice A1_2 l1_2.length c1_2,.slice A1_3 l1_3.length c1_3,.slice A1_4 l1_4.length c1_4]) (t:=41) ?_;intro m hg w5 hbox hb;have c:=zM (hbox);have ba:=sG HB hg;have aB:=sG HB hg;replace HB:=sB HB hb;have M:=sN b hg;have O:=sM b hg;replace b:=sK b hb;clear hb hbox hg))
 (try simp only[zP])
 go_cut [35] (fun a1 wc=>∃(kq:Nat) (aC:Bool),a1= .bool aC∧Aside0 (spec_SameConsole.j0 kq aC l0_0 a0_1 l0_2 l0_3 l0_4 l1_0 a1_1 l1_2 l1_3 l1_4=some r)∧Aside0 (kq≤k)∧Aside0 (wc.heap[l]?=some (.cells #[(.slice A0_0 l0_0.length c0_0),.int .i64 a0_1,(.slice A0_2 l0_2.length c0_2),(.slice A0_3 l0_3.length c0_3),(.slice A0_4 l0_4.length c0_4)] 41 (0,0)))∧Aside0 (wc.heap[m]?=some (.cells #[(.slice A1_0 l1_0.length c1_0),.int .i64 a1_1,(.slice A1_2 l1_2.length c1_2),(.slice A1_3 l1_3.length c1_3),(.slice A1_4 l1_4.length c1_4)] 41 (0,0)))∧Aside0 (Below w.heap.size w wc))
 case first=>(
 have H:=aJ.out
 clear aJ
 obtain⟨aH,A6,H⟩:=sO H
 by_cases c7:aH=true
 ·(
 subst c7
 rewrite[if_pos rfl]at H
 by_cases P:a0_1=a1_1
 ·(
 rw[if_pos P]at H
 have c8b0:(a0_1==a1_1)=true:=zE P
 have c8b1:(a0_1 !=a1_1)=false:=zY P
 clear P
 (first|rw[c8b0]|(simp only[i64_w,i32_w];rw[c8b0])|rw[c8b2]|skip)
 obtain⟨aI,A9,H⟩:=sO H
 by_cases aD:aI=true
 ·(
 subst aD
 rewrite[if_pos rfl]at H
 have H':=zM H
 clear H
 have bb:=M.out
 have bc:=O.out
 obtain⟨bd,be,bf,bg,bh,bi,bj,bk,bl,bm⟩:=cells5 b.out
 obtain⟨bn,bo,bp,bq,br,bs,bt,bu,bv,bw⟩:=cells5 c.out
 go_wp2_with (first|((with_reducible refine gate_callee (f:=41) rfl ?_);refine sC (some 10) Try.func41 #[.slice A0_0 l0_0.length c0_0,.slice A1_0 l1_0.length c1_0] (spec_l21SameTexts.calls k _ _ l0_0 _ _ l1_0 true _ ?side1 ?side2 ?side3 ?side4 A6.out) ?_;(case side1=>exact sD (zC aw.out HB.out));(case side2=>exact ax.out);(case side3=>exact sD (zC ay.out HB.out));(case side4=>exact az.out);rintro e w' ⟨rfl,⟨nd,rfl⟩⟩;refine⟨_,rfl,?_⟩)|(go_at_call 41;(with_reducible refine(spec_l21SameTexts.calls k _ _ l0_2 _ _ l1_2 true _ ?side1 ?side2 ?side3 ?side4 A9.out).mono ?_);(case side1=>exact sD (zC aO.out (by repeat(first|(with_reducible first|exact HB.out|apply below_alloc|apply pw_below_drewN|apply below_drew1|refine below_set ?_ aA.out|refine below_set ?_ aB.out)|exact HB.out))));(case side2=>exact aP.out);(case side3=>exact sD (zC aR.out (by repeat(first|(with_reducible first|exact HB.out|apply below_alloc|apply pw_below_drewN|apply below_drew1|refine below_set ?_ aA.out|refine below_set ?_ aB.out)|exact HB.out))));(case side4=>exact aS.out);rintro e w' ⟨rfl,⟨nd,rfl⟩⟩))
 go_meet
 case rel=>exact⟨_,(((l0_3.length:Int) !=(l1_3.length:Int))),sr,H',⟨by first|omega|exact Nat.le_refl _⟩,⟨by exact sT b.out⟩,⟨by exact sT c.out⟩,⟨sb⟩⟩)
 replace aD:=zB aD
 subst aD
 rewrite[if_neg zQ]at H
 have H':=zM H
 clear H
 have bx:=M.out
 have bz:=O.out
 obtain⟨bA,bB,bC,bD,bE,bF,bG,bH,bI,bJ⟩:=cells5 b.out
 obtain⟨bK,bL,bM,bO,bP,bQ,bR,bS,bT,bU⟩:=cells5 c.out
 go_wp2_with (first|((with_reducible refine gate_callee (f:=41) rfl ?_);refine sC (some 10) Try.func41 #[.slice A0_0 l0_0.length c0_0,.slice A1_0 l1_0.length c1_0] (spec_l21SameTexts.calls k _ _ l0_0 _ _ l1_0 true _ ?side1 ?side2 ?side3 ?side4 A6.out) ?_;(case side1=>exact sD (zC aw.out HB.out));(case side2=>exact ax.out);(case side3=>exact sD (zC ay.out HB.out));(case side4=>exact az.out);rintro e w' ⟨rfl,⟨nd,rfl⟩⟩;refine⟨_,rfl,?_⟩)|(go_at_call 41;(with_reducible refine(spec_l21SameTexts.calls k _ _ l0_2 _ _ l1_2 false _ ?side1 ?side2 ?side3 ?side4 A9.out).mono ?_);(case side1=>exact sD (zC aO.out (by repeat(first|(with_reducible first|exact HB.out|apply below_alloc|apply pw_below_drewN|apply below_drew1|refine below_set ?_ aA.out|refine below_set ?_ aB.out)|exact HB.out))));(case side2=>exact aP.out);(case side3=>exact sD (zC aR.out (by repeat(first|(with_reducible first|exact HB.out|apply below_alloc|apply pw_below_drewN|apply below_drew1|refine below_set ?_ aA.out|refine below_set ?_ aB.out)|exact HB.out))));(case side4=>exact aS.out);rintro e w' ⟨rfl,⟨nd,rfl⟩⟩))
 go_meet
 case rel=>exact⟨_,(true),sr,H',⟨by first|omega|exact Nat.le_refl _⟩,⟨by exact sT b.out⟩,⟨by exact sT c.out⟩,⟨sb⟩⟩)
 rw[if_neg P]at H
 have c8b0:(a0_1==a1_1)=false:=zN P
 have c8b1:(a0_1 !=a1_1)=true:=zX P
 (first|rw[c8b0]|(simp only[i64_w,i32_w];rw[c8b0])|rw[c8b2]|skip)
 have H':=zM H
 clear H
 have bV:=M.out
 have bW:=O.out
 obtain⟨bX,bY,bZ,b0,b1,b2,b3,b4,b5,b6⟩:=cells5 b.out
 obtain⟨b7,b8,b9,ca,cb,cc,cd,ce,cf,cg⟩:=cells5 c.out
 go_wp2_with (first|((with_reducible refine gate_callee (f:=41) rfl ?_);refine sC (some 10) Try.func41 #[.slice A0_0 l0_0.length c0_0,.slice A1_0 l1_0.length c1_0] (spec_l21SameTexts.calls k _ _ l0_0 _ _ l1_0 true _ ?side1 ?side2 ?side3 ?side4 A6.out) ?_;(case side1=>exact sD (zC aw.out HB.out));(case side2=>exact ax.out);(case side3=>exact sD (zC ay.out HB.out));(case side4=>exact az.out);rintro e w' ⟨rfl,⟨nd,rfl⟩⟩;refine⟨_,rfl,?_⟩))
 go_meet
 case rel=>exact⟨_,(true),sr,H',⟨by first|omega|exact Nat.le_refl _⟩,⟨by exact sT b.out⟩,⟨by exact sT c.out⟩,⟨sb⟩⟩)
 replace c7:=zB c7
 subst c7
 rewrite[if_neg zQ]at H
 have H':=zM H
 clear H
 have ch:=M.out
 have ci:=O.out
 obtain⟨cj,ck,cl,cm,cn,co,cp,cq,cr,ct⟩:=cells5 b.out
 obtain⟨cu,cv,cw,cx,cy,cz,cA,cB,cC,cD⟩:=cells5 c.out
 go_wp2_with (first|((with_reducible refine gate_callee (f:=41) rfl ?_);refine sC (some 10) Try.func41 #[.slice A0_0 l0_0.length c0_0,.slice A1_0 l1_0.length c1_0] (spec_l21SameTexts.calls k _ _ l0_0 _ _ l1_0 false _ ?side1 ?side2 ?side3 ?side4 A6.out) ?_;(case side1=>exact sD (zC aw.out HB.out));(case side2=>exact ax.out);(case side3=>exact sD (zC ay.out HB.out));(case side4=>exact az.out);rintro e w' ⟨rfl,⟨nd,rfl⟩⟩;refine⟨_,rfl,?_⟩))
 go_meet
 case rel=>exact⟨_,(true),sr,H',⟨by first|omega|exact Nat.le_refl _⟩,⟨by exact sT b.out⟩,⟨by exact sT c.out⟩,⟨sb⟩⟩)
 case rest=>(
 clear aJ
 obtain⟨kq,aC,rfl,HA,aU,b,c,HB⟩:=hcut
 cases kq with
 |zero=>exact absurd HA.out (by simp[spec_SameConsole.j0])
 |succ kj2=>(
 have H:=HA.out
 clear HA
 simp only[spec_SameConsole.j0]at H
 by_cases aj:aC=true
 ·(
 subst aj
 rewrite[if_pos rfl]at H
 obtain rfl:=zI H
 go_wp2
 go_ret
 exact⟨sq,sb⟩)
 replace aj:=zB aj
 subst aj
 rewrite[if_neg zQ]at H
 have H':=zM H
 clear H
 go_wp2
 go_loopg [5] kj2 (fun kq v5 w'=>∃(a:Int),v5= .int .i64 a∧Aside0 (spec_SameConsole.l0 kq a l0_0 a0_1 l0_2 l0_3 l0_4 l1_0 a1_1 l1_2 l1_3 l1_4=some r)∧Aside0 (kq≤kj2)∧Aside0 (w'.heap[l]?=some (.cells #[(.slice A0_0 l0_0.length c0_0),.int .i64 a0_1,(.slice A0_2 l0_2.length c0_2),(.slice A0_3 l0_3.length c0_3),(.slice A0_4 l0_4.length c0_4)] 41 (0,0)))∧Aside0 (w'.heap[m]?=some (.cells #[(.slice A1_0 l1_0.length c1_0),.int .i64 a1_1,(.slice A1_2 l1_2.length c1_2),(.slice A1_3 l1_3.length c1_3),(.slice A1_4 l1_4.length c1_4)] 41 (0,0)))∧Aside0 (Below w.heap.size w w'))
 case atStart=>exact⟨(0),sr,H',⟨Nat.le_refl _⟩,⟨by exact sT b.out⟩,⟨by exact sT c.out⟩,⟨sb⟩⟩
 case round=>(
 clear H'
 try clear aj
 obtain⟨a,rfl,HA,aV,b,c,HB⟩:=hrel
 cases gk with
 |zero=>exact absurd HA.out (by simp[spec_SameConsole.l0])
 |succ k2=>(
 have H:=HA.out
 clear HA
 simp only[spec_SameConsole.l0]at H
 by_cases ai:a<(l0_3.length:Int)
 ·(
 rw[if_pos ai]at H
 have c24b0:=zT ai
 clear ai
 by_cases aE:0≤a
 ·(
 rw[if_pos aE]at H
 have c25b0:=zT aE
 clear aE
 by_cases aF:a<(l1_3.length:Int)
 ·(
 rw[if_pos aF]at H
 have c26b0:=zT aF
 clear aF
 obtain⟨a2,aW,H⟩:=sO H
 by_cases aG:a2=true
 ·(
 subst aG
 rewrite[if_pos rfl]at H
 have H':=zM H
 clear H
 have cE:=M.out
 have cF:=O.out
 obtain⟨cG,cH,cI,cJ,cK,cL,cM,cN,cO,cP⟩:=cells5 b.out
 try go_wp2
 replace b:=zM (blk_drew b.out)
 replace c:=zM (blk_drew c.out)
 replace HB:=zM (below_drew1 HB.out)
 have Q:0≤(a:Int):=zO (by first|(with_reducible assumption)|assumption)
 have R:a<(l0_3.length:Int):=zO (by first|(with_reducible assumption)|assumption)
 obtain⟨g,ak,al,aK,o,p,q,s,am,an⟩:=at_T87 aQ.out a Q R
 have u:=s
 have x:=q
 have y:=p
 have z:=o
 cases aK
 replace o:=sX HB o
 replace p:=sX HB p
 replace q:=sX HB q
 replace s:=sX HB s
 have ao:=zM an
 have aL:=zM am
 clear an am
 replace Q:=eq_true Q
 replace R:=eq_true R
 have T:0≤(a:Int):=zO (by first|(with_reducible assumption)|assumption)
 have U:a<(l1_3.length:Int):=zO (by first|(with_reducible assumption)|assumption)
 obtain⟨j,ap,aq,aM,A,B,D,E,ar,au⟩:=at_T87 aT.out a T U
 have F:=E
 have G:=D
 have I:=B
 have J:=A
 cases aM
 replace A:=sX HB A
 replace B:=sX HB B
 replace D:=sX HB D
 replace E:=sX HB E
 have av:=zM au
 have aN:=zM ar
 clear au ar
 replace T:=eq_true T
 replace U:=eq_true U
 refine start_ (n:=12) (S:=fun w'=>w'.cell? ⟨l,0,none⟩=some (.slice A0_0 l0_0.length c0_0)∧w'.cell? ⟨l,1,none⟩=some (.int .i64 a0_1)∧w'.cell? ⟨l,2,none⟩=some (.slice A0_2 l0_2.length c0_2)∧w'.cell? ⟨l,3,none⟩=some (.slice (some g) l0_3.length c0_3)∧w'.cell? ⟨l,4,none⟩=some (.slice A0_4 l0_4.length c0_4)∧w'.cell? ⟨m,0,none⟩=some (.slice A1_0 l1_0.length c1_0)∧w'.cell? ⟨m,1,none⟩=some (.int .i64 a1_1)∧w'.cell? ⟨m,2,none⟩=some (.slice A1_2 l1_2.length c1_2)∧w'.cell? ⟨m,3,none⟩=some (.slice (some j) l1_3.length c1_3)∧w'.cell? ⟨m,4,none⟩=some (.slice A1_4 l1_4.length c1_4)∧w'.cell? (g.add ((a).toNat*4))=some (.string ((rd_T87 l0_3 a).f0))∧w'.cell? ⟨(g.add ((a).toNat*4)).block,(g.add ((a).toNat*4)).off+1,none⟩=some (.slice ak ((rd_T87 l0_3 a).f1).length al)∧w'.cell? ⟨(g.add ((a).toNat*4)).block,(g.add ((a).toNat*4)).off+2,none⟩=some (.int .i64 ((rd_T87 l0_3 a).f2))∧w'.cell? ⟨(g.add ((a).toNat*4)).block,(g.add ((a).toNat*4)).off+3,none⟩=some (.int .i64 ((rd_T87 l0_3 a).f3))∧w'.cell? (j.add ((a).toNat*4))=some (.string ((rd_T87 l1_3 a).f0))∧w'.cell? ⟨(j.add ((a).toNat*4)).block,(j.add ((a).toNat*4)).off+1,none⟩=some (.slice ap ((rd_T87 l1_3 a).f1).length aq)∧w'.cell? ⟨(j.add ((a).toNat*4)).block,(j.add ((a).toNat*4)).off+2,none⟩=some (.int .i64 ((rd_T87 l1_3 a).f2))∧w'.cell? ⟨(j.add ((a).toNat*4)).block,(j.add ((a).toNat*4)).off+3,none⟩=some (.int .i64 ((rd_T87 l1_3 a).f3))) (ds:=[]) #[false,false,false,false,false,false,false,false,false,false,false,false] (by kernel_rfl) rfl rfl ⟨(blk_cell b.out 0).trans rfl,(blk_cell b.out 1).trans rfl,(blk_cell b.out 2).trans rfl,(blk_cell b.out 3).trans rfl,(blk_cell b.out 4).trans rfl,(blk_cell c.out 0).trans rfl,(blk_cell c.out 1).trans rfl,(blk_cell c.out 2).trans rfl,(blk_cell c.out 3).trans rfl,(blk_cell c.out 4).trans rfl,((HB.out.cell (zL w _ z)).trans z),((HB.out.cell (zL w _ y)).trans y),((HB.out.cell (zL w _ x)).trans x),((HB.out.cell (zL w _ u)).trans u),((HB.out.cell (zL w _ J)).trans J),((HB.out.cell (zL w _ I)).trans I),((HB.out.cell (zL w _ G)).trans G),((HB.out.cell (zL w _ F)).trans F)⟩ (fun hHeld=>?_);refine with_tabW spec_SameConsole.tab6 spec_SameConsole.bits6 (fun d L=>?_)
 generalize wr.drew=w31 at b c HB ao av o p q s A B D E hHeld ⊢
 refine pure_ (i:=0) (N:=some 43) (v:=?_) (a':=?_) (bN 12 1) rfl rfl (any_of d.out (by kernel_rfl)) (fun _ _ _ h=>h) (Or.inl ⟨by rfl,?_⟩) ?_ ?_
 rotate_left
 ·(
 intro w'
 go_simp
 with_reducible rfl)
 rotate_left
 ·(
 simp only[zP,i64_w,i32_w]
 rfl)
 refine pure_ (i:=2) (N:=some 45) (v:=?_) (a':=?_) (bN 12 5) rfl rfl (any_of d.out (by kernel_rfl)) (fun _ _ _ h=>h) (Or.inl ⟨by rfl,?_⟩) ?_ ?_
 rotate_left
 ·(
 intro w'
 go_simp
 with_reducible rfl)
 rotate_left
 ·(
 simp only[zP,i64_w,i32_w]
 rfl)
 refine pure_ (i:=5) (N:=some 48) (v:=?_) (a':=?_) (bN 12 37) rfl rfl (any_of d.out (by kernel_rfl)) (fun _ _ _ h=>h) (Or.inl ⟨by rfl,?_⟩) ?_ ?_
 rotate_left
 ·(
 intro w'
 go_simp
 with_reducible rfl)
 rotate_left
 ·(
 simp only[zP,i64_w,i32_w]
 rfl)
 refine pure_ (i:=7) (N:=some 50) (v:=?_) (a':=?_) (bN 12 165) rfl rfl (any_of d.out (by kernel_rfl)) (fun _ _ _ h=>h) (Or.inl ⟨by rfl,?_⟩) ?_ ?_
 rotate_left
 ·(
 intro w'
 go_simp
 with_reducible rfl)
 rotate_left
 ·(
 simp only[zP,i64_w,i32_w]
 rfl)
 refine take_ (i:=1) (N:=some 44) (v:=?_) (a':=?_) (bN 12 167) rfl rfl (take_ofW d.out L.out (by kernel_rfl)) (fun _ _ _ h=>h) (Or.inl ⟨by rfl,?_⟩) hHeld ?_ ?_
 rotate_left
 ·(
 rintro w' ⟨V,W,X,Y,Z,s5,s6,s7,s8,s9,aa,ab,ac,ad,ae,af,ag,ah⟩
 go_simp
 with_reducible rfl)
 rotate_left
 ·(
 simp only[zP,i64_w,i32_w]
 rfl)
 refine pure_ (i:=3) (N:=some 46) (v:=?_) (a':=?_) (bN 12 175) rfl rfl (any_of d.out (by kernel_rfl)) (fun _ _ _ h=>h) (Or.inl ⟨by rfl,?_⟩) ?_ ?_
 rotate_left
 ·(
 intro w'
 go_simp
 with_reducible rfl)
 rotate_left
 ·(
 simp only[zP,i64_w,i32_w]
 rfl)
 refine take_ (i:=4) (N:=some 47) (v:=?_) (a':=?_) (bN 12 191) rfl rfl (take_ofW d.out L.out (by kernel_rfl)) (fun _ _ _ h=>h) (Or.inl ⟨by rfl,?_⟩) hHeld ?_ ?_
 rotate_left
 ·(
 rintro w' ⟨V,W,X,Y,Z,s5,s6,s7,s8,s9,aa,ab,ac,ad,ae,af,ag,ah⟩
 go_simp
 with_reducible rfl)
 rotate_left
 ·(
 simp only[zP,i64_w,i32_w]
 rfl)
 refine take_ (i:=6) (N:=some 49) (v:=?_) (a':=?_) (bN 12 255) rfl rfl (take_ofW d.out L.out (by kernel_rfl)) (fun _ _ _ h=>h) (Or.inl ⟨by rfl,?_⟩) hHeld ?_ ?_
 rotate_left
 ·(
 rintro w' ⟨V,W,X,Y,Z,s5,s6,s7,s8,s9,aa,ab,ac,ad,ae,af,ag,ah⟩
 go_simp
 with_reducible rfl)
 rotate_left
 ·(
 simp only[zP,i64_w,i32_w]
 rfl)
 refine pure_ (i:=8) (N:=some 51) (v:=?_) (a':=?_) (bN 12 511) rfl rfl (any_of d.out (by kernel_rfl)) (fun _ _ _ h=>h) (Or.inl ⟨by rfl,?_⟩) ?_ ?_
 rotate_left
 ·(
 intro w'
 go_simp
 with_reducible rfl)
 rotate_left
 ·(
 simp only[zP,i64_w,i32_w]
 rfl)
 refine take_ (i:=9) (N:=some 52) (v:=?_) (a':=?_) (bN 12 1023) rfl rfl (take_ofW d.out L.out (by kernel_rfl)) (fun _ _ _ h=>h) (Or.inl ⟨by rfl,?_⟩) hHeld ?_ ?_
 rotate_left
 ·(
 rintro w' ⟨V,W,X,Y,Z,s5,s6,s7,s8,s9,aa,ab,ac,ad,ae,af,ag,ah⟩
 go_simp
 with_reducible rfl)
 rotate_left
 ·(
 simp only[zP,i64_w,i32_w]
 rfl)
 refine one_ (i:=10) (N:=some 53) (bN 12 2047) rfl rfl (one_of d.out (by kernel_rfl)) (by decide) (fun K hK=>?_)
 refine goes_ Try.func42 (by kernel_rfl) rfl #[.agg #[.string ((rd_T87 l0_3 a).f0),.slice ak ((rd_T87 l0_3 a).f1).length al,.int .i64 ((rd_T87 l0_3 a).f2),.int .i64 ((rd_T87 l0_3 a).f3)],.agg #[.string ((rd_T87 l1_3 a).f0),.slice ap ((rd_T87 l1_3 a).f1).length aq,.int .i64 ((rd_T87 l1_3 a).f2),.int .i64 ((rd_T87 l1_3 a).f3)]] (by rfl) rfl rfl (by(try simp only[List.map_toArray,List.map_cons,List.map_nil]);first|done|rfl|(simp only[List.length_drop,List.length_take];rfl)) ?_
 with_reducible refine(spec_l21SameFile.calls k2 ((rd_T87 l0_3 a).f0) _ _ ((rd_T87 l0_3 a).f1) ((rd_T87 l0_3 a).f2) ((rd_T87 l0_3 a).f3) ((rd_T87 l1_3 a).f0) _ _ ((rd_T87 l1_3 a).f1) ((rd_T87 l1_3 a).f2) ((rd_T87 l1_3 a).f3) true _ ?side1 ?side2 ?side3 ?side4 aW.out).mono ?_
 (case side1=>exact sD (zC ao.out HB.out))
 (case side2=>exact aL.out)
 (case side3=>exact sD (zC av.out HB.out))
 (case side4=>exact aN.out)
 rintro e cQ ⟨rfl,hb⟩
 refine⟨_,rfl,?_⟩
 replace b:=sK b hb
 replace c:=sK c hb
 replace HB:=sB HB hb
 (try clear hb)
 (try clear hb2)
 (try clear hk)
 (try clear hi)
 refine hK.out _ _ ⟨(blk_cell b.out 0).trans rfl,(blk_cell b.out 1).trans rfl,(blk_cell b.out 2).trans rfl,(blk_cell b.out 3).trans rfl,(blk_cell b.out 4).trans rfl,(blk_cell c.out 0).trans rfl,(blk_cell c.out 1).trans rfl,(blk_cell c.out 2).trans rfl,(blk_cell c.out 3).trans rfl,(blk_cell c.out 4).trans rfl,((HB.out.cell (zL w _ z)).trans z),((HB.out.cell (zL w _ y)).trans y),((HB.out.cell (zL w _ x)).trans x),((HB.out.cell (zL w _ u)).trans u),((HB.out.cell (zL w _ J)).trans J),((HB.out.cell (zL w _ I)).trans I),((HB.out.cell (zL w _ G)).trans G),((HB.out.cell (zL w _ F)).trans F)⟩ (fun hHeld=>?_)
 clear hK K
 refine norm_ (a':=?_) ?_ ?_
 rotate_left
 ·(
 show Act.put _ (some 53) _=_
 simp only[zP,i64_w,i32_w]
 rfl)
 refine pure_ (i:=11) (N:=some 54) (v:=?_) (a':=?_) (bN 12 4095) rfl rfl (any_of d.out (by kernel_rfl)) (fun _ _ _ h=>h) (Or.inl ⟨by rfl,?_⟩) ?_ ?_
 rotate_left
 ·(
 intro w'
 go_simp
 with_reducible rfl)
 rotate_left
 ·(
 simp only[zP,i64_w,i32_w]
 rfl)
 refine done_ (done_of d.out (by kernel_rfl)) ?_
 try go_wp2
 go_roundg k2
 case measure=>have:=aU.out;have:=aV.out;omega
 case rel=>exact⟨(wrap64 (a+1)),sr,H',⟨by have:=aU.out;have:=aV.out;omega⟩,⟨by exact sT b.out⟩,⟨by exact sT c.out⟩,⟨sb⟩⟩)
 replace aG:=zB aG
 subst aG
 rewrite[if_neg zQ]at H
 obtain rfl:=zI H
 have cR:=M.out
 have cS:=O.out
 obtain⟨cT,cU,cV,cW,cX,cY,cZ,c0,c1,c2⟩:=cells5 b.out
 try go_wp2
 replace b:=zM (blk_drew b.out)
 replace c:=zM (blk_drew c.out)
 replace HB:=zM (below_drew1 HB.out)
 have Q:0≤(a:Int):=zO (by first|(with_reducible assumption)|assumption)
 have R:a<(l0_3.length:Int):=zO (by first|(with_reducible assumption)|assumption)
 obtain⟨g,ak,al,aK,o,p,q,s,am,an⟩:=at_T87 aQ.out a Q R
 have u:=s
 have x:=q
 have y:=p
 have z:=o
 cases aK
 replace o:=sX HB o
 replace p:=sX HB p
 replace q:=sX HB q
 replace s:=sX HB s
 have ao:=zM an
 have aL:=zM am
 clear an am
 replace Q:=eq_true Q
 replace R:=eq_true R
 have T:0≤(a:Int):=zO (by first|(with_reducible assumption)|assumption)
 have U:a<(l1_3.length:Int):=zO (by first|(with_reducible assumption)|assumption)
 obtain⟨j,ap,aq,aM,A,B,D,E,ar,au⟩:=at_T87 aT.out a T U
 have F:=E
 have G:=D
 have I:=B
 have J:=A
 cases aM
 replace A:=sX HB A
 replace B:=sX HB B
 replace D:=sX HB D
 replace E:=sX HB E
 have av:=zM au
 have aN:=zM ar
 clear au ar
 replace T:=eq_true T
 replace U:=eq_true U
 refine start_ (n:=12) (S:=fun w'=>w'.cell? ⟨l,0,none⟩=some (.slice A0_0 l0_0.length c0_0)∧w'.cell? ⟨l,1,none⟩=some (.int .i64 a0_1)∧w'.cell? ⟨l,2,none⟩=some (.slice A0_2 l0_2.length c0_2)∧w'.cell? ⟨l,3,none⟩=some (.slice (some g) l0_3.length c0_3)∧w'.cell? ⟨l,4,none⟩=some (.slice A0_4 l0_4.length c0_4)∧w'.cell? ⟨m,0,none⟩=some (.slice A1_0 l1_0.length c1_0)∧w'.cell? ⟨m,1,none⟩=some (.int .i64 a1_1)∧w'.cell? ⟨m,2,none⟩=some (.slice A1_2 l1_2.length c1_2)∧w'.cell? ⟨m,3,none⟩=some (.slice (some j) l1_3.length c1_3)∧w'.cell? ⟨m,4,none⟩=some (.slice A1_4 l1_4.length c1_4)∧w'.cell? (g.add ((a).toNat*4))=some (.string ((rd_T87 l0_3 a).f0))∧w'.cell? ⟨(g.add ((a).toNat*4)).block,(g.add ((a).toNat*4)).off+1,none⟩=some (.slice ak ((rd_T87 l0_3 a).f1).length al)∧w'.cell? ⟨(g.add ((a).toNat*4)).block,(g.add ((a).toNat*4)).off+2,none⟩=some (.int .i64 ((rd_T87 l0_3 a).f2))∧w'.cell? ⟨(g.add ((a).toNat*4)).block,(g.add ((a).toNat*4)).off+3,none⟩=some (.int .i64 ((rd_T87 l0_3 a).f3))∧w'.cell? (j.add ((a).toNat*4))=some (.string ((rd_T87 l1_3 a).f0))∧w'.cell? ⟨(j.add ((a).toNat*4)).block,(j.add ((a).toNat*4)).off+1,none⟩=some (.slice ap ((rd_T87 l1_3 a).f1).length aq)∧w'.cell? ⟨(j.add ((a).toNat*4)).block,(j.add ((a).toNat*4)).off+2,none⟩=some (.int .i64 ((rd_T87 l1_3 a).f2))∧w'.cell? ⟨(j.add ((a).toNat*4)).block,(j.add ((a).toNat*4)).off+3,none⟩=some (.int .i64 ((rd_T87 l1_3 a).f3))) (ds:=[]) #[false,false,false,false,false,false,false,false,false,false,false,false] (by kernel_rfl) rfl rfl ⟨(blk_cell b.out 0).trans rfl,(blk_cell b.out 1).trans rfl,(blk_cell b.out 2).trans rfl,(blk_cell b.out 3).trans rfl,(blk_cell b.out 4).trans rfl,(blk_cell c.out 0).trans rfl,(blk_cell c.out 1).trans rfl,(blk_cell c.out 2).trans rfl,(blk_cell c.out 3).trans rfl,(blk_cell c.out 4).trans rfl,((HB.out.cell (zL w _ z)).trans z),((HB.out.cell (zL w _ y)).trans y),((HB.out.cell (zL w _ x)).trans x),((HB.out.cell (zL w _ u)).trans u),((HB.out.cell (zL w _ J)).trans J),((HB.out.cell (zL w _ I)).trans I),((HB.out.cell (zL w _ G)).trans G),((HB.out.cell (zL w _ F)).trans F)⟩ (fun hHeld=>?_);refine with_tabW spec_SameConsole.tab6 spec_SameConsole.bits6 (fun d L=>?_)
 generalize wr.drew=w35 at b c HB ao av o p q s A B D E hHeld ⊢
 refine pure_ (i:=0) (N:=some 43) (v:=?_) (a':=?_) (bN 12 1) rfl rfl (any_of d.out (by kernel_rfl)) (fun _ _ _ h=>h) (Or.inl ⟨by rfl,?_⟩) ?_ ?_
 rotate_left
 ·(
 intro w'
 go_simp
 with_reducible rfl)
 rotate_left
 ·(
 simp only[zP,i64_w,i32_w]
 rfl)
 refine pure_ (i:=2) (N:=some 45) (v:=?_) (a':=?_) (bN 12 5) rfl rfl (any_of d.out (by kernel_rfl)) (fun _ _ _ h=>h) (Or.inl ⟨by rfl,?_⟩) ?_ ?_
 rotate_left
 ·(
 intro w'
 go_simp
 with_reducible rfl)
 rotate_left
 ·(
 simp only[zP,i64_w,i32_w]
 rfl)
 refine pure_ (i:=5) (N:=some 48) (v:=?_) (a':=?_) (bN 12 37) rfl rfl (any_of d.out (by kernel_rfl)) (fun _ _ _ h=>h) (Or.inl ⟨by rfl,?_⟩) ?_ ?_
 rotate_left
 ·(
 intro w'
 go_simp
 with_reducible rfl)
 rotate_left
 ·(
 simp only[zP,i64_w,i32_w]
 rfl)
 refine pure_ (i:=7) (N:=some 50) (v:=?_) (a':=?_) (bN 12 165) rfl rfl (any_of d.out (by kernel_rfl)) (fun _ _ _ h=>h) (Or.inl ⟨by rfl,?_⟩) ?_ ?_
 rotate_left
 ·(
 intro w'
 go_simp
 with_reducible rfl)
 rotate_left
 ·(
 simp only[zP,i64_w,i32_w]
 rfl)
 refine take_ (i:=1) (N:=some 44) (v:=?_) (a':=?_) (bN 12 167) rfl rfl (take_ofW d.out L.out (by kernel_rfl)) (fun _ _ _ h=>h) (Or.inl ⟨by rfl,?_⟩) hHeld ?_ ?_
 rotate_left
 ·(
 rintro w' ⟨V,W,X,Y,Z,s5,s6,s7,s8,s9,aa,ab,ac,ad,ae,af,ag,ah⟩
 go_simp
 with_reducible rfl)
 rotate_left
 ·(
 simp only[zP,i64_w,i32_w]
 rfl)
 refine pure_ (i:=3) (N:=some 46) (v:=?_) (a':=?_) (bN 12 175) rfl rfl (any_of d.out (by kernel_rfl)) (fun _ _ _ h=>h) (Or.inl ⟨by rfl,?_⟩) ?_ ?_
 rotate_left
 ·(
 intro w'
 go_simp
 with_reducible rfl)
 rotate_left
 ·(
 simp only[zP,i64_w,i32_w]
 rfl)
 refine take_ (i:=4) (N:=some 47) (v:=?_) (a':=?_) (bN 12 191) rfl rfl (take_ofW d.out L.out (by kernel_rfl)) (fun _ _ _ h=>h) (Or.inl ⟨by rfl,?_⟩) hHeld ?_ ?_
 rotate_left
 ·(
 rintro w' ⟨V,W,X,Y,Z,s5,s6,s7,s8,s9,aa,ab,ac,ad,ae,af,ag,ah⟩
 go_simp
 with_reducible rfl)
 rotate_left
 ·(
 simp only[zP,i64_w,i32_w]
 rfl)
 refine take_ (i:=6) (N:=some 49) (v:=?_) (a':=?_) (bN 12 255) rfl rfl (take_ofW d.out L.out (by kernel_rfl)) (fun _ _ _ h=>h) (Or.inl ⟨by rfl,?_⟩) hHeld ?_ ?_
 rotate_left
 ·(
 rintro w' ⟨V,W,X,Y,Z,s5,s6,s7,s8,s9,aa,ab,ac,ad,ae,af,ag,ah⟩
 go_simp
 with_reducible rfl)
 rotate_left
 ·(
 simp only[zP,i64_w,i32_w]
 rfl)
 refine pure_ (i:=8) (N:=some 51) (v:=?_) (a':=?_) (bN 12 511) rfl rfl (any_of d.out (by kernel_rfl)) (fun _ _ _ h=>h) (Or.inl ⟨by rfl,?_⟩) ?_ ?_
 rotate_left
 ·(
 intro w'
 go_simp
 with_reducible rfl)
 rotate_left
 ·(
 simp only[zP,i64_w,i32_w]
 rfl)
 refine take_ (i:=9) (N:=some 52) (v:=?_) (a':=?_) (bN 12 1023) rfl rfl (take_ofW d.out L.out (by kernel_rfl)) (fun _ _ _ h=>h) (Or.inl ⟨by rfl,?_⟩) hHeld ?_ ?_
 rotate_left
 ·(
 rintro w' ⟨V,W,X,Y,Z,s5,s6,s7,s8,s9,aa,ab,ac,ad,ae,af,ag,ah⟩
 go_simp
 with_reducible rfl)
 rotate_left
 ·(
 simp only[zP,i64_w,i32_w]
 rfl)
 refine one_ (i:=10) (N:=some 53) (bN 12 2047) rfl rfl (one_of d.out (by kernel_rfl)) (by decide) (fun K hK=>?_)
 refine goes_ Try.func42 (by kernel_rfl) rfl #[.agg #[.string ((rd_T87 l0_3 a).f0),.slice ak ((rd_T87 l0_3 a).f1).length al,.int .i64 ((rd_T87 l0_3 a).f2),.int .i64 ((rd_T87 l0_3 a).f3)],.agg #[.string ((rd_T87 l1_3 a).f0),.slice ap ((rd_T87 l1_3 a).f1).length aq,.int .i64 ((rd_T87 l1_3 a).f2),.int .i64 ((rd_T87 l1_3 a).f3)]] (by rfl) rfl rfl (by(try simp only[List.map_toArray,List.map_cons,List.map_nil]);first|done|rfl|(simp only[List.length_drop,List.length_take];rfl)) ?_
 with_reducible refine(spec_l21SameFile.calls k2 ((rd_T87 l0_3 a).f0) _ _ ((rd_T87 l0_3 a).f1) ((rd_T87 l0_3 a).f2) ((rd_T87 l0_3 a).f3) ((rd_T87 l1_3 a).f0) _ _ ((rd_T87 l1_3 a).f1) ((rd_T87 l1_3 a).f2) ((rd_T87 l1_3 a).f3) false _ ?side1 ?side2 ?side3 ?side4 aW.out).mono ?_
 (case side1=>exact sD (zC ao.out HB.out))
 (case side2=>exact aL.out)
 (case side3=>exact sD (zC av.out HB.out))
 (case side4=>exact aN.out)
 rintro e c3 ⟨rfl,hb⟩
 refine⟨_,rfl,?_⟩
 replace b:=sK b hb
 replace c:=sK c hb
 replace HB:=sB HB hb
 (try clear hb)
 (try clear hb2)
 (try clear hk)
 (try clear hi)
 refine hK.out _ _ ⟨(blk_cell b.out 0).trans rfl,(blk_cell b.out 1).trans rfl,(blk_cell b.out 2).trans rfl,(blk_cell b.out 3).trans rfl,(blk_cell b.out 4).trans rfl,(blk_cell c.out 0).trans rfl,(blk_cell c.out 1).trans rfl,(blk_cell c.out 2).trans rfl,(blk_cell c.out 3).trans rfl,(blk_cell c.out 4).trans rfl,((HB.out.cell (zL w _ z)).trans z),((HB.out.cell (zL w _ y)).trans y),((HB.out.cell (zL w _ x)).trans x),((HB.out.cell (zL w _ u)).trans u),((HB.out.cell (zL w _ J)).trans J),((HB.out.cell (zL w _ I)).trans I),((HB.out.cell (zL w _ G)).trans G),((HB.out.cell (zL w _ F)).trans F)⟩ (fun hHeld=>?_)
 clear hK K
 refine norm_ (a':=?_) ?_ ?_
 rotate_left
 ·(
 show Act.put _ (some 53) _=_
 simp only[zP,i64_w,i32_w]
 rfl)
 refine pure_ (i:=11) (N:=some 54) (v:=?_) (a':=?_) (bN 12 4095) rfl rfl (any_of d.out (by kernel_rfl)) (fun _ _ _ h=>h) (Or.inl ⟨by rfl,?_⟩) ?_ ?_
 rotate_left
 ·(
 intro w'
 go_simp
 with_reducible rfl)
 rotate_left
 ·(
 simp only[zP,i64_w,i32_w]
 rfl)
 refine done_ (done_of d.out (by kernel_rfl)) ?_
 try go_wp2
 go_ret
 exact⟨sq,sb⟩)
 rw[if_neg aF]at H
 exact absurd H (by simp))
 rw[if_neg aE]at H
 exact absurd H (by simp))
 rw[if_neg ai]at H
 have c24b0:=zF ai
 clear ai
 obtain⟨a3,a4,H⟩:=sO H
 obtain rfl:=zI H
 have c4:=M.out
 have c5:=O.out
 obtain⟨c6,c9,da,db,dc,dd,de,df,dg,dh⟩:=cells5 b.out
 obtain⟨di,dj,dk,dl,dm,dn,dp,dq,dr,dt⟩:=cells5 c.out
 go_wp2_with (first|((with_reducible refine gate_callee (f:=41) rfl ?_);refine sC (some 59) Try.func41 #[.slice A0_4 l0_4.length c0_4,.slice A1_4 l1_4.length c1_4] (spec_l21SameTexts.calls k2 _ _ l0_4 _ _ l1_4 a3 _ ?side1 ?side2 ?side3 ?side4 a4.out) ?_;(case side1=>exact sD (zC aX.out HB.out));(case side2=>exact aY.out);(case side3=>exact sD (zC aZ.out HB.out));(case side4=>exact a0.out);rintro e w' ⟨rfl,⟨nd,rfl⟩⟩;refine⟨_,rfl,?_⟩))
 go_ret
 exact⟨sq,sb⟩))))
end Go.Proofs.Ytnneadpahjkhgaa.PFnExactSameMemory
