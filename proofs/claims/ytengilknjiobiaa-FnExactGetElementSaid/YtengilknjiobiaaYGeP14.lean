/- Printed functions: spec_l09At. -/
import Derived.Test.YtengilknjiobiaaYGeP0
import Derived.Test.YtengilknjiobiaaYGeP4
import Derived.Test.YtengilknjiobiaaYGeP13
namespace Go.Proofs.Ytengilknjiobiaa.PFnExactGetElement
open Go.RowKit Go.Proofs.YtengilknjiobiaaG Go.Proofs.YtengilknjiobiaaW.PrintWords Go.Proofs.YtengilknjiobiaaW.PrintLast Go.Proofs.YtengilknjiobiaaW.PrintMore
attribute [local go_sem] max2_int min2_int max_two min_two max_three min_three max_four min_four
set_option linter.unusedVariables false
set_option linter.unusedSimpArgs false
def spec_l09At.j0 : Nat → List (S56) → Bool → Int → Int → ByteArray → Int → Option (Int)
 |0,_,_,_,_,_,_=>none
 |k+1,x0,x39,x240000,x240001,x240002,x240003=>if x39=true then(some (-1))else(if 0<(x0.length:Int)then(some (wrap64 (x240001-((rd_T56 x0 0).f3))))else(none))
def spec_l09At.f (k:Nat) (l0:List (S56)) (a1_0:Int) (a1_1:Int) (a1_2:ByteArray) (a1_3:Int):Option (Int):=if 0<(l0.length:Int)then(if((rd_T56 l0 0).f1)=2 then((spec_l09Key.f k ((rd_T56 l0 0).f4) a1_0 a1_1 a1_2 a1_3).bind fun t242=>(some t242))else(if a1_0=2 then((spec_l00In.f a1_1 ((rd_T56 l0 0).f3) (wrap64 ((wrap64 (((rd_T56 l0 0).f3)+(((rd_T56 l0 0).f5).length:Int)))- 1))).bind fun t246=>(spec_l09At.j0 k l0 (!t246) a1_0 a1_1 a1_2 a1_3))else(spec_l09At.j0 k l0 true a1_0 a1_1 a1_2 a1_3)))else(none)
def spec_l09At.T3:Bool×List (List Nat×List Nat):=(true,[([],[]),([0],[0]),([1],[1]),([2],[2]),([3],[3]),([4,3],[3,4]),([3],[3]),([6,3],[3,6]),([7,3],[3,7]),([8,3],[3,8]),([3],[3]),([10,3],[3,10]),([11,3],[3,11]),([12,3],[3,12]),([3],[3]),([14,3],[3,14]),([15,3],[3,15]),([16,3],[3,16]),([17,3],[3,17]),([13,18,3],[3,13,18]),([19,3],[3,19]),([5,9,20,3,3],[3,5,9,20]),([21,3],[3,21]),([3,22],[3,22])])
def spec_l09At.B3:List Nat:=[0,1,3,7,15,31,15,79,207,463,15,1039,3087,7183,15,16399,49167,114703,245775,523279,1047567,2097151,4194303,8388607]
theorem spec_l09At.tab3:rtab .any (opsOf Try.f49 3)=spec_l09At.T3:=by kernel_rfl
theorem spec_l09At.bits3:waitsOk spec_l09At.T3.2 spec_l09At.B3=true:=by kernel_rfl
def spec_l09At.T5:Bool×List (List Nat×List Nat):=(true,[([],[]),([0],[0]),([],[]),([2],[2]),([3],[3]),([4],[4]),([1,5],[1,5]),([6,0,1,2,3,4,5,6],[6])])
def spec_l09At.B5:List Nat:=[0,1,0,4,12,28,63,127]
theorem spec_l09At.tab5:rtab .any (opsOf Try.f49 5)=spec_l09At.T5:=by kernel_rfl
theorem spec_l09At.bits5:waitsOk spec_l09At.T5.2 spec_l09At.B5=true:=by kernel_rfl
set_option maxHeartbeats 8000000 in
set_option maxRecDepth 100000 in
theorem spec_l09At.calls (k:Nat) (A0:Option Addr) (l0:List (S56)) (a1_0:Int) (a1_1:Int) (a1_2:ByteArray) (a1_3:Int) (r:Int) (w:World) (hr0:Kd.C k56 w A0 l0.length l0) (h:spec_l09At.f k l0 a1_0 a1_1 a1_2 a1_3=some r):
  Calls Try.prog 49 #[.pointer A0,.agg #[.int .i64 a1_0,.int .i64 a1_1,.string a1_2,.int .i64 a1_3]] w fun e w'=>e= .returned (.int .i64 r)∧Below w.heap.size w w':=by
 have dA:=Try.underlying29
 have F:=zM hr0
 have dB:=zM (Nat.le_refl l0.length)
 clear hr0
 have HB:=zM (Below.refl w.heap.size w)
 have H:(if 0<(l0.length:Int)then(if((rd_T56 l0 0).f1)=2 then((spec_l09Key.f k ((rd_T56 l0 0).f4) a1_0 a1_1 a1_2 a1_3).bind fun b8=>(some b8))else(if a1_0=2 then((spec_l00In.f a1_1 ((rd_T56 l0 0).f3) (wrap64 ((wrap64 (((rd_T56 l0 0).f3)+(((rd_T56 l0 0).f5).length:Int)))- 1))).bind fun bJ=>(spec_l09At.j0 k l0 (!bJ) a1_0 a1_1 a1_2 a1_3))else(spec_l09At.j0 k l0 true a1_0 a1_1 a1_2 a1_3)))else(none))=some r:=h
 clear h
 by_cases c3:0<(l0.length:Int)
 ·(
 rw[if_pos c3]at H
 have c3b0:=zT c3
 have c3b1:decide (0<l0.length)=true:=zT (by omega)
 clear c3
 by_cases G:((rd_T56 l0 0).f1)=2
 ·(
 rw[if_pos G]at H
 have c4b0:(((rd_T56 l0 0).f1)==2)=true:=zE G
 have c4b1:(((rd_T56 l0 0).f1) !=2)=false:=zY G
 clear G
 obtain⟨b8,A5,H⟩:=sO H
 obtain rfl:=zI H
 go_enter Try.func49,Try.ntmps49
 try go_wp2_with (first|((with_reducible refine gate_dst (N:=3) rfl ?_);(try(refine gate_guard (by rfl) ?_;dsimp only));refine sV (N:=3) (cs:= #[.int .i64 a1_0,.int .i64 a1_1,.string a1_2,.int .i64 a1_3]) (t:=29) ?_;intro d hg w6 hbox hb;have c:=zM (hbox);have cY:=sG HB hg;have cZ:=sG HB hg;replace HB:=sB HB hb;clear hb hbox hg;have I:0≤(0:Int):=(by omega);have J:0<(l0.length:Int):=zO (by first|(with_reducible assumption)|assumption);obtain⟨a,c0,c1,c2,c5,b9,L,M,O,P,Q,R,T,U,V,W,ag,ah,ai,aj⟩:=at_T56 F.out 0 I J;cases b9;have c6:(0<l0.length)=True:=eq_true (by omega);(try rw[sZ]at L);(try rw[sZ]at M);(try rw[sZ]at O);(try rw[sZ]at P);(try rw[sZ]at Q);(try rw[sZ]at R);(try rw[sZ]at T);(try rw[sZ]at U);(try rw[sZ]at V);(try rw[sZ]at W);replace L:=sX HB L;replace M:=sX HB M;replace O:=sX HB O;replace P:=sX HB P;replace Q:=sX HB Q;replace R:=sX HB R;replace T:=sX HB T;replace U:=sX HB U;replace V:=sX HB V;replace W:=sX HB W;have c7:=zM ah;have c8:=zM ag;clear ah ag;have c9:=zM aj;have da:=zM ai;clear aj ai;replace I:=eq_true I;replace J:=eq_true J))
 replace c:=zM (blk_drew c.out)
 replace HB:=zM (below_drew1 HB.out)
 have ca:0≤(0:Int):=(by omega)
 have cb:0<(l0.length:Int):=zO (by first|(with_reducible assumption)|assumption)
 obtain⟨ad241,cA,cB,db,dc,dd,ak,al,am,an,ao,ap,aq,ar,au,av,cC,cD,cE,cF⟩:=at_T56 F.out 0 ca cb
 have aw:=av
 (try rw[sZ]at aw)
 have ax:=au
 (try rw[sZ]at ax)
 have ay:=ar
 (try rw[sZ]at ay)
 have az:=aq
 (try rw[sZ]at az)
 have aA:=ap
 (try rw[sZ]at aA)
 have aB:=ao
 (try rw[sZ]at aB)
 have aC:=an
 (try rw[sZ]at aC)
 have aD:=am
 (try rw[sZ]at aD)
 have aE:=al
 (try rw[sZ]at aE)
 have aF:=ak
 (try rw[sZ]at aF)
 obtain rfl:a=ad241:=(by injection dd)
 have dC:(0<l0.length)=True:=eq_true (by omega)
 (try rw[sZ]at ak)
 (try rw[sZ]at al)
 (try rw[sZ]at am)
 (try rw[sZ]at an)
 (try rw[sZ]at ao)
 (try rw[sZ]at ap)
 (try rw[sZ]at aq)
 (try rw[sZ]at ar)
 (try rw[sZ]at au)
 (try rw[sZ]at av)
 replace ak:=sX HB ak
 replace al:=sX HB al
 replace am:=sX HB am
 replace an:=sX HB an
 replace ao:=sX HB ao
 replace ap:=sX HB ap
 replace aq:=sX HB aq
 replace ar:=sX HB ar
 replace au:=sX HB au
 replace av:=sX HB av
 have cG:=zM cD
 have de:=zM cC
 clear cD cC
 have df:=zM cF
 have dD:=zM cE
 clear cF cE
 replace ca:=eq_true ca
 replace cb:=eq_true cb
 refine start_ (n:=7) (S:=fun w'=>w'.cell? ⟨d,0,none⟩=some (.int .i64 a1_0)∧w'.cell? ⟨d,1,none⟩=some (.int .i64 a1_1)∧w'.cell? ⟨d,2,none⟩=some (.string a1_2)∧w'.cell? ⟨d,3,none⟩=some (.int .i64 a1_3)∧w'.cell? a=some (.int .i64 ((rd_T56 l0 0).f0))∧w'.cell? ⟨a.block,a.off+1,none⟩=some (.int .i64 ((rd_T56 l0 0).f1))∧w'.cell? ⟨a.block,a.off+2,none⟩=some (.string ((rd_T56 l0 0).f2))∧w'.cell? ⟨a.block,a.off+3,none⟩=some (.int .i64 ((rd_T56 l0 0).f3))∧w'.cell? ⟨a.block,a.off+4,none⟩=some (.slice cA ((rd_T56 l0 0).f4).length cB)∧w'.cell? ⟨a.block,a.off+5,none⟩=some (.slice db ((rd_T56 l0 0).f5).length dc)∧w'.cell? ⟨a.block,a.off+6,none⟩=some (.int .i64 ((rd_T56 l0 0).f6.f0))∧w'.cell? ⟨a.block,a.off+7,none⟩=some (.int .i64 ((rd_T56 l0 0).f6.f1))∧w'.cell? ⟨a.block,a.off+8,none⟩=some (.string ((rd_T56 l0 0).f6.f2))∧w'.cell? ⟨a.block,a.off+9,none⟩=some (.int .i64 ((rd_T56 l0 0).f6.f3))) (ds:=[]) #[false,false,false,false,false,false,false] (by kernel_rfl) rfl rfl ⟨(blk_cell c.out 0).trans rfl,(blk_cell c.out 1).trans rfl,(blk_cell c.out 2).trans rfl,(blk_cell c.out 3).trans rfl,((HB.out.cell (zL w _ aF)).trans aF),((HB.out.cell (zL w _ aE)).trans aE),((HB.out.cell (zL w _ aD)).trans aD),((HB.out.cell (zL w _ aC)).trans aC),((HB.out.cell (zL w _ aB)).trans aB),((HB.out.cell (zL w _ aA)).trans aA),((HB.out.cell (zL w _ az)).trans az),((HB.out.cell (zL w _ ay)).trans ay),((HB.out.cell (zL w _ ax)).trans ax),((HB.out.cell (zL w _ aw)).trans aw)⟩ (fun hHeld=>?_)
 generalize w6.drew=w7 at c HB cG df ak al am an ao ap aq ar au av hHeld ⊢
 refine pure_ (i:=0) (N:=some 10) (v:=?_) (a':=?_) #[true,false,false,false,false,false,false] rfl rfl (by kernel_rfl) (fun _ _ _ h=>h) (Or.inl ⟨by rfl,?_⟩) ?_ ?_
 rotate_left
 ·(
 intro w'
 go_simp
 with_reducible rfl)
 rotate_left
 ·(
 simp only[zP,i64_w,i32_w]
 rfl)
 refine pure_ (i:=1) (N:=some 11) (v:=?_) (a':=?_) #[true,true,false,false,false,false,false] rfl rfl (by kernel_rfl) (fun _ _ _ h=>h) (Or.inl ⟨by rfl,?_⟩) ?_ ?_
 rotate_left
 ·(
 intro w'
 go_simp
 with_reducible rfl)
 rotate_left
 ·(
 simp only[zP,i64_w,i32_w]
 rfl)
 refine pure_ (i:=2) (N:=some 12) (v:=?_) (a':=?_) #[true,true,true,false,false,false,false] rfl rfl (by kernel_rfl) (fun _ _ _ h=>h) (Or.inl ⟨by rfl,?_⟩) ?_ ?_
 rotate_left
 ·(
 intro w'
 go_simp
 with_reducible rfl)
 rotate_left
 ·(
 simp only[zP,i64_w,i32_w]
 rfl)
 refine take_ (i:=3) (N:=some 13) (v:=?_) (a':=?_) #[true,true,true,true,false,false,false] rfl rfl (by kernel_rfl) (fun _ _ _ h=>h) (Or.inl ⟨by rfl,?_⟩) hHeld ?_ ?_
 rotate_left
 ·(
 rintro w' ⟨l,m,o,p,q,s,u,x,y,z,A,B,D,E⟩
 go_simp
 with_reducible rfl)
 rotate_left
 ·(
 simp only[zP,i64_w,i32_w]
 rfl)
 refine take_ (i:=4) (N:=some 14) (v:=?_) (a':=?_) #[true,true,true,true,true,false,false] rfl rfl (by kernel_rfl) (fun _ _ _ h=>h) (Or.inl ⟨by rfl,?_⟩) hHeld ?_ ?_
 rotate_left
 ·(
 rintro w' ⟨l,m,o,p,q,s,u,x,y,z,A,B,D,E⟩
 go_simp
 with_reducible rfl)
 rotate_left
 ·(
 simp only[zP,i64_w,i32_w]
 rfl)
 refine one_ (i:=5) (N:=some 15) #[true,true,true,true,true,true,false] rfl rfl (by kernel_rfl) (by decide) (fun K hK=>?_)
 refine goes_ Try.func74 (by kernel_rfl) rfl #[.slice cA ((rd_T56 l0 0).f4).length cB,.agg #[.int .i64 a1_0,.int .i64 a1_1,.string a1_2,.int .i64 a1_3]] (by rfl) rfl rfl (by(try simp only[List.map_toArray,List.map_cons,List.map_nil]);first|done|rfl|(simp only[List.length_drop,List.length_take];rfl)) ?_
 with_reducible refine(spec_l09Key.calls k _ _ ((rd_T56 l0 0).f4) a1_0 a1_1 a1_2 a1_3 b8 _ ?side1 ?side2 A5.out).mono ?_
 (case side1=>exact sD (zC cG.out HB.out))
 (case side2=>exact de.out)
 rintro e w8 ⟨rfl,hb⟩
 refine⟨_,rfl,?_⟩
 replace c:=sK c hb
 replace HB:=sB HB hb
 (try clear hb)
 (try clear hb2)
 (try clear hk)
 (try clear hi)
 refine hK.out _ _ ⟨(blk_cell c.out 0).trans rfl,(blk_cell c.out 1).trans rfl,(blk_cell c.out 2).trans rfl,(blk_cell c.out 3).trans rfl,((HB.out.cell (zL w _ aF)).trans aF),((HB.out.cell (zL w _ aE)).trans aE),((HB.out.cell (zL w _ aD)).trans aD),((HB.out.cell (zL w _ aC)).trans aC),((HB.out.cell (zL w _ aB)).trans aB),((HB.out.cell (zL w _ aA)).trans aA),((HB.out.cell (zL w _ az)).trans az),((HB.out.cell (zL w _ ay)).trans ay),((HB.out.cell (zL w _ ax)).trans ax),((HB.out.cell (zL w _ aw)).trans aw)⟩ (fun hHeld=>?_)
 clear hK K
 refine norm_ (a':=?_) ?_ ?_
 rotate_left
 ·(
 show Act.put _ (some 15) _=_
 simp only[zP,i64_w,i32_w]
 rfl)
 refine pure_ (i:=6) (N:=some 4) (v:=?_) (a':=?_) #[true,true,true,true,true,true,true] rfl rfl (by kernel_rfl) (fun _ _ _ h=>h) (Or.inl ⟨by rfl,?_⟩) ?_ ?_
 rotate_left
 ·(
 intro w'
 go_simp
 with_reducible rfl)
 rotate_left
 ·(
 simp only[zP,i64_w,i32_w]
 rfl)
 refine done_ (by kernel_rfl) ?_
 try go_wp2
 go_ret
 exact⟨sq,sb⟩)
 rw[if_neg G]at H
 have c4b0:(((rd_T56 l0 0).f1)==2)=false:=zN G
 have c4b1:(((rd_T56 l0 0).f1) !=2)=true:=zX G
 have cc:=zM H
 clear H
 go_enter Try.func49,Try.ntmps49
 go_upto_region 3 with(first|((with_reducible refine gate_dst (N:=3) rfl ?_);(try(refine gate_guard (by rfl) ?_;dsimp only));refine sV (N:=3) (cs:= #[.int .i64 a1_0,.int .i64 a1_1,.string a1_2,.int .i64 a1_3]) (t:=29) ?_;intro d hg cH hbox hb;have c:=zM (hbox);have cY:=sG HB hg;have cZ:=sG HB hg;replace HB:=sB HB hb;clear hb hbox hg;have I:0≤(0:Int):=(by omega);have J:0<(l0.length:Int):=zO (by first|(with_reducible assumption)|assumption);obtain⟨a,c0,c1,c2,c5,b9,L,M,O,P,Q,R,T,U,V,W,ag,ah,ai,aj⟩:=at_T56 F.out 0 I J;cases b9;have c6:(0<l0.length)=True:=eq_true (by omega);(try rw[sZ]at L);(try rw[sZ]at M);(try rw[sZ]at O);(try rw[sZ]at P);(try rw[sZ]at Q);(try rw[sZ]at R);(try rw[sZ]at T);(try rw[sZ]at U);(try rw[sZ]at V);(try rw[sZ]at W);replace L:=sX HB L;replace M:=sX HB M;replace O:=sX HB O;replace P:=sX HB P;replace Q:=sX HB Q;replace R:=sX HB R;replace T:=sX HB T;replace U:=sX HB U;replace V:=sX HB V;replace W:=sX HB W;have c7:=zM ah;have c8:=zM ag;clear ah ag;have c9:=zM aj;have da:=zM ai;clear aj ai;replace I:=eq_true I;replace J:=eq_true J))
 (try simp only[zP])
 go_cut [39] (fun dg wc=>∃(kq:Nat) (bK:Bool),dg= .bool bK∧Aside0 (spec_l09At.j0 kq l0 bK a1_0 a1_1 a1_2 a1_3=some r)∧Aside0 (kq≤k)∧Aside0 (wc.heap[d]?=some (.cells #[.int .i64 a1_0,.int .i64 a1_1,.string a1_2,.int .i64 a1_3] 29 (0,0)))∧Aside0 (Below w.heap.size w wc))
 case first=>(
 have H:=cc.out
 clear cc
 by_cases X:a1_0=2
 ·(
 rw[if_pos X]at H
 have c11b0:(a1_0==2)=true:=zE X
 have c11b1:(a1_0 !=2)=false:=zY X
 clear X
 (first|rw[c11b0]|(simp only[i64_w,i32_w];rw[c11b0])|rw[c11b2]|skip)
 obtain⟨bJ,dh,H⟩:=sO H
 have H':=zM H
 clear H
 try go_wp2
 replace c:=zM (blk_drew c.out)
 replace HB:=zM (below_drew1 HB.out)
 have cd:0≤(0:Int):=(by omega)
 have ce:0<(l0.length:Int):=zO (by first|(with_reducible assumption)|assumption)
 obtain⟨ad243,cf,cg,ch,ci,di,aG,aH,aI,aJ,Y,Z,aK,aL,aM,aN,cI,cJ,cK,cL⟩:=at_T56 F.out 0 cd ce
 have aO:=aN
 (try rw[sZ]at aO)
 have aP:=aM
 (try rw[sZ]at aP)
 have aQ:=aL
 (try rw[sZ]at aQ)
 have aR:=aK
 (try rw[sZ]at aR)
 have aS:=Z
 (try rw[sZ]at aS)
 have aT:=Y
 (try rw[sZ]at aT)
 have aU:=aJ
 (try rw[sZ]at aU)
 have aV:=aI
 (try rw[sZ]at aV)
 have aW:=aH
 (try rw[sZ]at aW)
 have aX:=aG
 (try rw[sZ]at aX)
 obtain rfl:a=ad243:=(by injection di)
 have dE:(0<l0.length)=True:=eq_true (by omega)
 (try rw[sZ]at aG)
 (try rw[sZ]at aH)
 (try rw[sZ]at aI)
 (try rw[sZ]at aJ)
 (try rw[sZ]at Y)
 (try rw[sZ]at Z)
 (try rw[sZ]at aK)
 (try rw[sZ]at aL)
 (try rw[sZ]at aM)
 (try rw[sZ]at aN)
 replace aG:=sX HB aG
 replace aH:=sX HB aH
 replace aI:=sX HB aI
 replace aJ:=sX HB aJ
 replace Y:=sX HB Y
 replace Z:=sX HB Z
 replace aK:=sX HB aK
 replace aL:=sX HB aL
 replace aM:=sX HB aM
 replace aN:=sX HB aN
 have dj:=zM cJ
 have dF:=zM cI
 clear cJ cI
 have dk:=zM cL
 have dG:=zM cK
 clear cL cK
 replace cd:=eq_true cd
 replace ce:=eq_true ce
 have cj:0≤(0:Int):=(by omega)
 have ck:0<(l0.length:Int):=zO (by first|(with_reducible assumption)|assumption)
 obtain⟨ad244,dH,dI,dJ,dK,dl,aY,aZ,a0,a1,ac,ad,a2,a3,a4,a5,cM,cN,cO,cP⟩:=at_T56 F.out 0 cj ck
 have a6:=a5
 (try rw[sZ]at a6)
 have a7:=a4
 (try rw[sZ]at a7)
 have a8:=a3
 (try rw[sZ]at a8)
 have a9:=a2
 (try rw[sZ]at a9)
 have ba:=ad
 (try rw[sZ]at ba)
 have bb:=ac
 (try rw[sZ]at bb)
 have bc:=a1
 (try rw[sZ]at bc)
 have bd:=a0
 (try rw[sZ]at bd)
 have be:=aZ
 (try rw[sZ]at be)
 have bf:=aY
 (try rw[sZ]at bf)
 obtain rfl:a=ad244:=(by injection dl)
 have dL:(0<l0.length)=True:=eq_true (by omega)
 (try rw[sZ]at aY)
 (try rw[sZ]at aZ)
 (try rw[sZ]at a0)
 (try rw[sZ]at a1)
 (try rw[sZ]at ac)
 (try rw[sZ]at ad)
 (try rw[sZ]at a2)
 (try rw[sZ]at a3)
 (try rw[sZ]at a4)
 (try rw[sZ]at a5)
 replace aY:=sX HB aY
 replace aZ:=sX HB aZ
 replace a0:=sX HB a0
 replace a1:=sX HB a1
 replace ac:=sX HB ac
 replace ad:=sX HB ad
 replace a2:=sX HB a2
 replace a3:=sX HB a3
 replace a4:=sX HB a4
 replace a5:=sX HB a5
 have dm:=zM cN
 have dM:=zM cM
 clear cN cM
 have dn:=zM cP
 have dN:=zM cO
 clear cP cO
 replace cj:=eq_true cj
 replace ck:=eq_true ck
 have g:=zI (Y.symm.trans ac)
 injection g with g aa ab
 subst g
 subst ab
 clear aa
 have g:=zI (Z.symm.trans ad)
 injection g with g aa ab
 subst g
 subst ab
 clear aa
 have cl:0≤(0:Int):=(by omega)
 have cm:0<(l0.length:Int):=zO (by first|(with_reducible assumption)|assumption)
 obtain⟨ad245,dO,dP,dQ,dR,dp,bg,bh,bi,bj,ae,af,bk,bl,bm,bn,cQ,cR,cS,cT⟩:=at_T56 F.out 0 cl cm
 have bo:=bn
 (try rw[sZ]at bo)
 have bp:=bm
 (try rw[sZ]at bp)
 have bq:=bl
 (try rw[sZ]at bq)
 have br:=bk
 (try rw[sZ]at br)
 have bs:=af
 (try rw[sZ]at bs)
 have bt:=ae
 (try rw[sZ]at bt)
 have bu:=bj
 (try rw[sZ]at bu)
 have bv:=bi
 (try rw[sZ]at bv)
 have bw:=bh
 (try rw[sZ]at bw)
 have bx:=bg
 (try rw[sZ]at bx)
 obtain rfl:a=ad245:=(by injection dp)
 have dS:(0<l0.length)=True:=eq_true (by omega)
 (try rw[sZ]at bg)
 (try rw[sZ]at bh)
 (try rw[sZ]at bi)
 (try rw[sZ]at bj)
 (try rw[sZ]at ae)
 (try rw[sZ]at af)
 (try rw[sZ]at bk)
 (try rw[sZ]at bl)
 (try rw[sZ]at bm)
 (try rw[sZ]at bn)
 replace bg:=sX HB bg
 replace bh:=sX HB bh
 replace bi:=sX HB bi
 replace bj:=sX HB bj
 replace ae:=sX HB ae
 replace af:=sX HB af
 replace bk:=sX HB bk
 replace bl:=sX HB bl
 replace bm:=sX HB bm
 replace bn:=sX HB bn
 have dq:=zM cR
 have dT:=zM cQ
 clear cR cQ
 have dr:=zM cT
 have dU:=zM cS
 clear cT cS
 replace cl:=eq_true cl
 replace cm:=eq_true cm
 have g:=zI (Y.symm.trans ae)
 injection g with g aa ab
 subst g
 subst ab
 clear aa
 have g:=zI (Z.symm.trans af)
 injection g with g aa ab
 subst g
 subst ab
 clear aa
 refine start_ (n:=24) (S:=fun w'=>w'.cell? ⟨d,0,none⟩=some (.int .i64 a1_0)∧w'.cell? ⟨d,1,none⟩=some (.int .i64 a1_1)∧w'.cell? ⟨d,2,none⟩=some (.string a1_2)∧w'.cell? ⟨d,3,none⟩=some (.int .i64 a1_3)∧w'.cell? a=some (.int .i64 ((rd_T56 l0 0).f0))∧w'.cell? ⟨a.block,a.off+1,none⟩=some (.int .i64 ((rd_T56 l0 0).f1))∧w'.cell? ⟨a.block,a.off+2,none⟩=some (.string ((rd_T56 l0 0).f2))∧w'.cell? ⟨a.block,a.off+3,none⟩=some (.int .i64 ((rd_T56 l0 0).f3))∧w'.cell? ⟨a.block,a.off+4,none⟩=some (.slice cf ((rd_T56 l0 0).f4).length cg)∧w'.cell? ⟨a.block,a.off+5,none⟩=some (.slice ch ((rd_T56 l0 0).f5).length ci)∧w'.cell? ⟨a.block,a.off+6,none⟩=some (.int .i64 ((rd_T56 l0 0).f6.f0))∧w'.cell? ⟨a.block,a.off+7,none⟩=some (.int .i64 ((rd_T56 l0 0).f6.f1))∧w'.cell? ⟨a.block,a.off+8,none⟩=some (.string ((rd_T56 l0 0).f6.f2))∧w'.cell? ⟨a.block,a.off+9,none⟩=some (.int .i64 ((rd_T56 l0 0).f6.f3))∧w'.cell? a=some (.int .i64 ((rd_T56 l0 0).f0))∧w'.cell? ⟨a.block,a.off+1,none⟩=some (.int .i64 ((rd_T56 l0 0).f1))∧w'.cell? ⟨a.block,a.off+2,none⟩=some (.string ((rd_T56 l0 0).f2))∧w'.cell? ⟨a.block,a.off+3,none⟩=some (.int .i64 ((rd_T56 l0 0).f3))∧w'.cell? ⟨a.block,a.off+4,none⟩=some (.slice cf ((rd_T56 l0 0).f4).length cg)∧w'.cell? ⟨a.block,a.off+5,none⟩=some (.slice ch ((rd_T56 l0 0).f5).length ci)∧w'.cell? ⟨a.block,a.off+6,none⟩=some (.int .i64 ((rd_T56 l0 0).f6.f0))∧w'.cell? ⟨a.block,a.off+7,none⟩=some (.int .i64 ((rd_T56 l0 0).f6.f1))∧w'.cell? ⟨a.block,a.off+8,none⟩=some (.string ((rd_T56 l0 0).f6.f2))∧w'.cell? ⟨a.block,a.off+9,none⟩=some (.int .i64 ((rd_T56 l0 0).f6.f3))∧w'.cell? a=some (.int .i64 ((rd_T56 l0 0).f0))∧w'.cell? ⟨a.block,a.off+1,none⟩=some (.int .i64 ((rd_T56 l0 0).f1))∧w'.cell? ⟨a.block,a.off+2,none⟩=some (.string ((rd_T56 l0 0).f2))∧w'.cell? ⟨a.block,a.off+3,none⟩=some (.int .i64 ((rd_T56 l0 0).f3))∧w'.cell? ⟨a.block,a.off+4,none⟩=some (.slice cf ((rd_T56 l0 0).f4).length cg)∧w'.cell? ⟨a.block,a.off+5,none⟩=some (.slice ch ((rd_T56 l0 0).f5).length ci)∧w'.cell? ⟨a.block,a.off+6,none⟩=some (.int .i64 ((rd_T56 l0 0).f6.f0))∧w'.cell? ⟨a.block,a.off+7,none⟩=some (.int .i64 ((rd_T56 l0 0).f6.f1))∧w'.cell? ⟨a.block,a.off+8,none⟩=some (.string ((rd_T56 l0 0).f6.f2))∧w'.cell? ⟨a.block,a.off+9,none⟩=some (.int .i64 ((rd_T56 l0 0).f6.f3))) (ds:=[]) #[false,false,false,false,false,false,false,false,false,false,false,false,false,false,false,false,false,false,false,false,false,false,false,false] (by kernel_rfl) rfl rfl ⟨(blk_cell c.out 0).trans rfl,(blk_cell c.out 1).trans rfl,(blk_cell c.out 2).trans rfl,(blk_cell c.out 3).trans rfl,((HB.out.cell (zL w _ aX)).trans aX),((HB.out.cell (zL w _ aW)).trans aW),((HB.out.cell (zL w _ aV)).trans aV),((HB.out.cell (zL w _ aU)).trans aU),((HB.out.cell (zL w _ aT)).trans aT),((HB.out.cell (zL w _ aS)).trans aS),((HB.out.cell (zL w _ aR)).trans aR),((HB.out.cell (zL w _ aQ)).trans aQ),((HB.out.cell (zL w _ aP)).trans aP),((HB.out.cell (zL w _ aO)).trans aO),((HB.out.cell (zL w _ bf)).trans bf),((HB.out.cell (zL w _ be)).trans be),((HB.out.cell (zL w _ bd)).trans bd),((HB.out.cell (zL w _ bc)).trans bc),((HB.out.cell (zL w _ bb)).trans bb),((HB.out.cell (zL w _ ba)).trans ba),((HB.out.cell (zL w _ a9)).trans a9),((HB.out.cell (zL w _ a8)).trans a8),((HB.out.cell (zL w _ a7)).trans a7),((HB.out.cell (zL w _ a6)).trans a6),((HB.out.cell (zL w _ bx)).trans bx),((HB.out.cell (zL w _ bw)).trans bw),((HB.out.cell (zL w _ bv)).trans bv),((HB.out.cell (zL w _ bu)).trans bu),((HB.out.cell (zL w _ bt)).trans bt),((HB.out.cell (zL w _ bs)).trans bs),((HB.out.cell (zL w _ br)).trans br),((HB.out.cell (zL w _ bq)).trans bq),((HB.out.cell (zL w _ bp)).trans bp),((HB.out.cell (zL w _ bo)).trans bo)⟩ (fun hHeld=>?_);refine with_tabW spec_l09At.tab3 spec_l09At.bits3 (fun b j=>?_)
 generalize cH.drew=w13 at c HB dj dk dm dn dq dr aG aH aI aJ Y Z aK aL aM aN aY aZ a0 a1 ac ad a2 a3 a4 a5 bg bh bi bj ae af bk bl bm bn hHeld ⊢
 refine pure_ (i:=0) (N:=some 16) (v:=?_) (a':=?_) (bN 24 1) rfl rfl (any_of b.out (by kernel_rfl)) (fun _ _ _ h=>h) (Or.inl ⟨by rfl,?_⟩) ?_ ?_
 rotate_left
 ·(
 intro w'
 go_simp
 with_reducible rfl)
 rotate_left
 ·(
 simp only[zP,i64_w,i32_w]
 rfl)
 refine take_ (i:=1) (N:=some 17) (v:=?_) (a':=?_) (bN 24 3) rfl rfl (take_ofW b.out j.out (by kernel_rfl)) (fun _ _ _ h=>h) (Or.inl ⟨by rfl,?_⟩) hHeld ?_ ?_
 rotate_left
 ·(
 rintro w' ⟨l,m,o,p,q,s,u,x,y,z,A,B,D,E,bL,bM,bO,bP,bQ,bR,bS,bT,bU,bV,bW,bX,bY,bZ,b0,b1,b2,b3,b4,b5⟩
 go_simp
 with_reducible rfl)
 rotate_left
 ·(
 simp only[zP,i64_w,i32_w]
 rfl)
 refine pure_ (i:=2) (N:=some 18) (v:=?_) (a':=?_) (bN 24 7) rfl rfl (any_of b.out (by kernel_rfl)) (fun _ _ _ h=>h) (Or.inl ⟨by rfl,?_⟩) ?_ ?_
 rotate_left
 ·(
 intro w'
 go_simp
 with_reducible rfl)
 rotate_left
 ·(
 simp only[zP,i64_w,i32_w]
 rfl)
 refine pure_ (i:=3) (N:=some 19) (v:=?_) (a':=?_) (bN 24 15) rfl rfl (any_of b.out (by kernel_rfl)) (fun _ _ _ h=>h) (Or.inl ⟨by rfl,?_⟩) ?_ ?_
 rotate_left
 ·(
 intro w'
 go_simp
 with_reducible rfl)
 rotate_left
 ·(
 simp only[zP,i64_w,i32_w]
 rfl)
 refine pure_ (i:=4) (N:=some 20) (v:=?_) (a':=?_) (bN 24 31) rfl rfl (any_of b.out (by kernel_rfl)) (fun _ _ _ h=>h) (Or.inl ⟨by rfl,?_⟩) ?_ ?_
 rotate_left
 ·(
 intro w'
 go_simp
 with_reducible rfl)
 rotate_left
 ·(
 simp only[zP,i64_w,i32_w]
 rfl)
 refine pure_ (i:=6) (N:=some 22) (v:=?_) (a':=?_) (bN 24 95) rfl rfl (any_of b.out (by kernel_rfl)) (fun _ _ _ h=>h) (Or.inl ⟨by rfl,?_⟩) ?_ ?_
 rotate_left
 ·(
 intro w'
 go_simp
 with_reducible rfl)
 rotate_left
 ·(
 simp only[zP,i64_w,i32_w]
 rfl)
 refine pure_ (i:=7) (N:=some 23) (v:=?_) (a':=?_) (bN 24 223) rfl rfl (any_of b.out (by kernel_rfl)) (fun _ _ _ h=>h) (Or.inl ⟨by rfl,?_⟩) ?_ ?_
 rotate_left
 ·(
 intro w'
 go_simp
 with_reducible rfl)
 rotate_left
 ·(
 simp only[zP,i64_w,i32_w]
 rfl)
 refine pure_ (i:=8) (N:=some 24) (v:=?_) (a':=?_) (bN 24 479) rfl rfl (any_of b.out (by kernel_rfl)) (fun _ _ _ h=>h) (Or.inl ⟨by rfl,?_⟩) ?_ ?_
 rotate_left
 ·(
 intro w'
 go_simp
 with_reducible rfl)
 rotate_left
 ·(
 simp only[zP,i64_w,i32_w]
 rfl)
 refine pure_ (i:=10) (N:=some 26) (v:=?_) (a':=?_) (bN 24 1503) rfl rfl (any_of b.out (by kernel_rfl)) (fun _ _ _ h=>h) (Or.inl ⟨by rfl,?_⟩) ?_ ?_
 rotate_left
 ·(
 intro w'
 go_simp
 with_reducible rfl)
 rotate_left
 ·(
 simp only[zP,i64_w,i32_w]
 rfl)
 refine pure_ (i:=11) (N:=some 27) (v:=?_) (a':=?_) (bN 24 3551) rfl rfl (any_of b.out (by kernel_rfl)) (fun _ _ _ h=>h) (Or.inl ⟨by rfl,?_⟩) ?_ ?_
 rotate_left
 ·(
 intro w'
 go_simp
 with_reducible rfl)
 rotate_left
 ·(
 simp only[zP,i64_w,i32_w]
 rfl)
 refine pure_ (i:=12) (N:=some 28) (v:=?_) (a':=?_) (bN 24 7647) rfl rfl (any_of b.out (by kernel_rfl)) (fun _ _ _ h=>h) (Or.inl ⟨by rfl,?_⟩) ?_ ?_
 rotate_left
 ·(
 intro w'
 go_simp
 with_reducible rfl)
 rotate_left
 ·(
 simp only[zP,i64_w,i32_w]
 rfl)
 refine pure_ (i:=14) (N:=some 30) (v:=?_) (a':=?_) (bN 24 24031) rfl rfl (any_of b.out (by kernel_rfl)) (fun _ _ _ h=>h) (Or.inl ⟨by rfl,?_⟩) ?_ ?_
 rotate_left
 ·(
 intro w'
 go_simp
 with_reducible rfl)
 rotate_left
 ·(
 simp only[zP,i64_w,i32_w]
 rfl)
 refine pure_ (i:=15) (N:=some 31) (v:=?_) (a':=?_) (bN 24 56799) rfl rfl (any_of b.out (by kernel_rfl)) (fun _ _ _ h=>h) (Or.inl ⟨by rfl,?_⟩) ?_ ?_
 rotate_left
 ·(
 intro w'
 go_simp
 with_reducible rfl)
 rotate_left
 ·(
 simp only[zP,i64_w,i32_w]
 rfl)
 refine pure_ (i:=16) (N:=some 32) (v:=?_) (a':=?_) (bN 24 122335) rfl rfl (any_of b.out (by kernel_rfl)) (fun _ _ _ h=>h) (Or.inl ⟨by rfl,?_⟩) ?_ ?_
 rotate_left
 ·(
 intro w'
 go_simp
 with_reducible rfl)
 rotate_left
 ·(
 simp only[zP,i64_w,i32_w]
 rfl)
 refine take_ (i:=5) (N:=some 21) (v:=?_) (a':=?_) (bN 24 122367) rfl rfl (take_ofW b.out j.out (by kernel_rfl)) (fun _ _ _ h=>h) (Or.inl ⟨by rfl,?_⟩) hHeld ?_ ?_
 rotate_left
 ·(
 rintro w' ⟨l,m,o,p,q,s,u,x,y,z,A,B,D,E,bL,bM,bO,bP,bQ,bR,bS,bT,bU,bV,bW,bX,bY,bZ,b0,b1,b2,b3,b4,b5⟩
 go_simp
 with_reducible rfl)
 rotate_left
 ·(
 simp only[zP,i64_w,i32_w]
 rfl)
 refine take_ (i:=9) (N:=some 25) (v:=?_) (a':=?_) (bN 24 122879) rfl rfl (take_ofW b.out j.out (by kernel_rfl)) (fun _ _ _ h=>h) (Or.inl ⟨by rfl,?_⟩) hHeld ?_ ?_
 rotate_left
 ·(
 rintro w' ⟨l,m,o,p,q,s,u,x,y,z,A,B,D,E,bL,bM,bO,bP,bQ,bR,bS,bT,bU,bV,bW,bX,bY,bZ,b0,b1,b2,b3,b4,b5⟩
 go_simp
 with_reducible rfl)
 rotate_left
 ·(
 simp only[zP,i64_w,i32_w]
 rfl)
 refine take_ (i:=13) (N:=some 29) (v:=?_) (a':=?_) (bN 24 131071) rfl rfl (take_ofW b.out j.out (by kernel_rfl)) (fun _ _ _ h=>h) (Or.inl ⟨by rfl,?_⟩) hHeld ?_ ?_
 rotate_left
 ·(
 rintro w' ⟨l,m,o,p,q,s,u,x,y,z,A,B,D,E,bL,bM,bO,bP,bQ,bR,bS,bT,bU,bV,bW,bX,bY,bZ,b0,b1,b2,b3,b4,b5⟩
 go_simp
 with_reducible rfl)
 rotate_left
 ·(
 simp only[zP,i64_w,i32_w]
 rfl)
 refine take_ (i:=17) (N:=some 33) (v:=?_) (a':=?_) (bN 24 262143) rfl rfl (take_ofW b.out j.out (by kernel_rfl)) (fun _ _ _ h=>h) (Or.inl ⟨by rfl,?_⟩) hHeld ?_ ?_
 rotate_left
 ·(
 rintro w' ⟨l,m,o,p,q,s,u,x,y,z,A,B,D,E,bL,bM,bO,bP,bQ,bR,bS,bT,bU,bV,bW,bX,bY,bZ,b0,b1,b2,b3,b4,b5⟩
 go_simp
 with_reducible rfl)
 rotate_left
 ·(
 simp only[zP,i64_w,i32_w]
 rfl)
 refine pure_ (i:=18) (N:=some 34) (v:=?_) (a':=?_) (bN 24 524287) rfl rfl (any_of b.out (by kernel_rfl)) (fun _ _ _ h=>h) (Or.inl ⟨by rfl,?_⟩) ?_ ?_
 rotate_left
 ·(
 intro w'
 go_simp
 with_reducible rfl)
 rotate_left
 ·(
 simp only[zP,i64_w,i32_w]
 rfl)
 refine pure_ (i:=19) (N:=some 35) (v:=?_) (a':=?_) (bN 24 1048575) rfl rfl (any_of b.out (by kernel_rfl)) (fun _ _ _ h=>h) (Or.inl ⟨by rfl,?_⟩) ?_ ?_
 rotate_left
 ·(
 intro w'
 go_simp
 with_reducible rfl)
 rotate_left
 ·(
 simp only[zP,i64_w,i32_w]
 rfl)
 refine pure_ (i:=20) (N:=some 36) (v:=?_) (a':=?_) (bN 24 2097151) rfl rfl (any_of b.out (by kernel_rfl)) (fun _ _ _ h=>h) (Or.inl ⟨by rfl,?_⟩) ?_ ?_
 rotate_left
 ·(
 intro w'
 go_simp
 with_reducible rfl)
 rotate_left
 ·(
 simp only[zP,i64_w,i32_w]
 rfl)
 refine one_ (i:=21) (N:=some 37) (bN 24 4194303) rfl rfl (one_of b.out (by kernel_rfl)) (by decide) (fun K hK=>?_)
 refine goes_ Try.func77 (by kernel_rfl) rfl #[.int .i64 a1_1,.int .i64 ((rd_T56 l0 0).f3),.int .i64 (wrap64 ((wrap64 (((rd_T56 l0 0).f3)+(((rd_T56 l0 0).f5).length:Int)))- 1))] (by rfl) rfl rfl (by(try simp only[List.map_toArray,List.map_cons,List.map_nil]);first|done|rfl|(simp only[List.length_drop,List.length_take];rfl)) ?_
 with_reducible refine(spec_l00In.calls a1_1 ((rd_T56 l0 0).f3) (wrap64 ((wrap64 (((rd_T56 l0 0).f3)+(((rd_T56 l0 0).f5).length:Int)))- 1)) bJ _ dh.out).mono ?_
 rintro e w' ⟨rfl,⟨nd,rfl⟩⟩
 refine⟨_,rfl,?_⟩
 refine hK.out _ _ ⟨(blk_cell c.out 0).trans rfl,(blk_cell c.out 1).trans rfl,(blk_cell c.out 2).trans rfl,(blk_cell c.out 3).trans rfl,((HB.out.cell (zL w _ aX)).trans aX),((HB.out.cell (zL w _ aW)).trans aW),((HB.out.cell (zL w _ aV)).trans aV),((HB.out.cell (zL w _ aU)).trans aU),((HB.out.cell (zL w _ aT)).trans aT),((HB.out.cell (zL w _ aS)).trans aS),((HB.out.cell (zL w _ aR)).trans aR),((HB.out.cell (zL w _ aQ)).trans aQ),((HB.out.cell (zL w _ aP)).trans aP),((HB.out.cell (zL w _ aO)).trans aO),((HB.out.cell (zL w _ bf)).trans bf),((HB.out.cell (zL w _ be)).trans be),((HB.out.cell (zL w _ bd)).trans bd),((HB.out.cell (zL w _ bc)).trans bc),((HB.out.cell (zL w _ bb)).trans bb),((HB.out.cell (zL w _ ba)).trans ba),((HB.out.cell (zL w _ a9)).trans a9),((HB.out.cell (zL w _ a8)).trans a8),((HB.out.cell (zL w _ a7)).trans a7),((HB.out.cell (zL w _ a6)).trans a6),((HB.out.cell (zL w _ bx)).trans bx),((HB.out.cell (zL w _ bw)).trans bw),((HB.out.cell (zL w _ bv)).trans bv),((HB.out.cell (zL w _ bu)).trans bu),((HB.out.cell (zL w _ bt)).trans bt),((HB.out.cell (zL w _ bs)).trans bs),((HB.out.cell (zL w _ br)).trans br),((HB.out.cell (zL w _ bq)).trans bq),((HB.out.cell (zL w _ bp)).trans bp),((HB.out.cell (zL w _ bo)).trans bo)⟩ (fun hHeld=>?_)
 clear hK K
 refine norm_ (a':=?_) ?_ ?_
 rotate_left
 ·(
 show Act.put _ (some 37) _=_
 simp only[zP,i64_w,i32_w]
 rfl)
 refine pure_ (i:=22) (N:=some 38) (v:=?_) (a':=?_) (bN 24 8388607) rfl rfl (any_of b.out (by kernel_rfl)) (fun _ _ _ h=>h) (Or.inl ⟨by rfl,?_⟩) ?_ ?_
 rotate_left
 ·(
 intro w'
 go_simp
 with_reducible rfl)
 rotate_left
 ·(
 simp only[zP,i64_w,i32_w]
 rfl)
 refine pure_ (i:=23) (N:=some 39) (v:=?_) (a':=?_) (bN 24 16777215) rfl rfl (any_of b.out (by kernel_rfl)) (fun _ _ _ h=>h) (Or.inl ⟨by rfl,?_⟩) ?_ ?_
 rotate_left
 ·(
 intro w'
 go_simp
 with_reducible rfl)
 rotate_left
 ·(
 simp only[zP,i64_w,i32_w]
 rfl)
 refine done_ (done_of b.out (by kernel_rfl)) ?_
 try go_wp2
 go_meet
 case rel=>exact⟨_,(!bJ),sr,H',⟨by first|omega|exact Nat.le_refl _⟩,⟨by exact sT c.out⟩,⟨sb⟩⟩)
 rw[if_neg X]at H
 have c11b0:(a1_0==2)=false:=zN X
 have c11b1:(a1_0 !=2)=true:=zX X
 (first|rw[c11b0]|(simp only[i64_w,i32_w];rw[c11b0])|rw[c11b2]|skip)
 have H':=zM H
 clear H
 try go_wp2
 replace c:=zM (blk_drew c.out)
 replace HB:=zM (below_drew1 HB.out)
 refine start_ (n:=24) (S:=fun w'=>w'.cell? ⟨d,0,none⟩=some (.int .i64 a1_0)∧w'.cell? ⟨d,1,none⟩=some (.int .i64 a1_1)∧w'.cell? ⟨d,2,none⟩=some (.string a1_2)∧w'.cell? ⟨d,3,none⟩=some (.int .i64 a1_3)) (ds:=[]) #[false,false,false,false,false,false,false,false,false,false,false,false,false,false,false,false,false,false,false,false,false,false,false,false] (by kernel_rfl) rfl rfl ⟨(blk_cell c.out 0).trans rfl,(blk_cell c.out 1).trans rfl,(blk_cell c.out 2).trans rfl,(blk_cell c.out 3).trans rfl⟩ (fun hHeld=>?_);refine with_tabW spec_l09At.tab3 spec_l09At.bits3 (fun b j=>?_)
 generalize cH.drew=w14 at c HB hHeld ⊢
 refine pure_ (i:=0) (N:=some 16) (v:=?_) (a':=?_) (bN 24 1) rfl rfl (any_of b.out (by kernel_rfl)) (fun _ _ _ h=>h) (Or.inl ⟨by rfl,?_⟩) ?_ ?_
 rotate_left
 ·(
 intro w'
 go_simp
 with_reducible rfl)
 rotate_left
 ·(
 simp only[zP,i64_w,i32_w]
 rfl)
 refine take_ (i:=1) (N:=some 17) (v:=?_) (a':=?_) (bN 24 3) rfl rfl (take_ofW b.out j.out (by kernel_rfl)) (fun _ _ _ h=>h) (Or.inl ⟨by rfl,?_⟩) hHeld ?_ ?_
 rotate_left
 ·(
 rintro w' ⟨l,m,o,p⟩
 go_simp
 with_reducible rfl)
 rotate_left
 ·(
 simp only[zP,i64_w,i32_w]
 rfl)
 refine pure_ (i:=2) (N:=some 18) (v:=?_) (a':=?_) (bN 24 7) rfl rfl (any_of b.out (by kernel_rfl)) (fun _ _ _ h=>h) (Or.inl ⟨by rfl,?_⟩) ?_ ?_
 rotate_left
 ·(
 intro w'
 go_simp
 with_reducible rfl)
 rotate_left
 ·(
 simp only[zP,i64_w,i32_w]
 rfl)
 refine pure_ (i:=3) (N:=some 19) (v:=?_) (a':=?_) (bN 24 15) rfl rfl (any_of b.out (by kernel_rfl)) (fun _ _ _ h=>h) (Or.inl ⟨by rfl,?_⟩) ?_ ?_
 rotate_left
 ·(
 intro w'
 go_simp
 with_reducible rfl)
 rotate_left
 ·(
 simp only[zP,i64_w,i32_w]
 rfl)
 refine pure_ (i:=4) (N:=some 20) (v:=undef) (a':=?_) (bN 24 31) rfl rfl (any_of b.out (by kernel_rfl)) (fun _ _ _ h=>h) (Or.inr ⟨by rfl,rfl⟩) ?_ ?_
 rotate_left
 ·(
 simp only[zP,i64_w,i32_w]
 rfl)
 refine pure_ (i:=5) (N:=some 21) (v:=undef) (a':=?_) (bN 24 63) rfl rfl (any_of b.out (by kernel_rfl)) (fun _ _ _ h=>h) (Or.inr ⟨by rfl,rfl⟩) ?_ ?_
 rotate_left
 ·(
 simp only[zP,i64_w,i32_w]
 rfl)
 refine pure_ (i:=6) (N:=some 22) (v:=undef) (a':=?_) (bN 24 127) rfl rfl (any_of b.out (by kernel_rfl)) (fun _ _ _ h=>h) (Or.inr ⟨by rfl,rfl⟩) ?_ ?_
 rotate_left
 ·(
 simp only[zP,i64_w,i32_w]
 rfl)
 refine pure_ (i:=7) (N:=some 23) (v:=undef) (a':=?_) (bN 24 255) rfl rfl (any_of b.out (by kernel_rfl)) (fun _ _ _ h=>h) (Or.inr ⟨by rfl,rfl⟩) ?_ ?_
 rotate_left
 ·(
 simp only[zP,i64_w,i32_w]
 rfl)
 refine pure_ (i:=8) (N:=some 24) (v:=undef) (a':=?_) (bN 24 511) rfl rfl (any_of b.out (by kernel_rfl)) (fun _ _ _ h=>h) (Or.inr ⟨by rfl,rfl⟩) ?_ ?_
 rotate_left
 ·(
 simp only[zP,i64_w,i32_w]
 rfl)
 refine pure_ (i:=9) (N:=some 25) (v:=undef) (a':=?_) (bN 24 1023) rfl rfl (any_of b.out (by kernel_rfl)) (fun _ _ _ h=>h) (Or.inr ⟨by rfl,rfl⟩) ?_ ?_
 rotate_left
 ·(
 simp only[zP,i64_w,i32_w]
 rfl)
 refine pure_ (i:=10) (N:=some 26) (v:=undef) (a':=?_) (bN 24 2047) rfl rfl (any_of b.out (by kernel_rfl)) (fun _ _ _ h=>h) (Or.inr ⟨by rfl,rfl⟩) ?_ ?_
 rotate_left
 ·(
 simp only[zP,i64_w,i32_w]
 rfl)
 refine pure_ (i:=11) (N:=some 27) (v:=undef) (a':=?_) (bN 24 4095) rfl rfl (any_of b.out (by kernel_rfl)) (fun _ _ _ h=>h) (Or.inr ⟨by rfl,rfl⟩) ?_ ?_
 rotate_left
 ·(
 simp only[zP,i64_w,i32_w]
 rfl)
 refine pure_ (i:=12) (N:=some 28) (v:=undef) (a':=?_) (bN 24 8191) rfl rfl (any_of b.out (by kernel_rfl)) (fun _ _ _ h=>h) (Or.inr ⟨by rfl,rfl⟩) ?_ ?_
 rotate_left
 ·(
 simp only[zP,i64_w,i32_w]
 rfl)
 refine pure_ (i:=13) (N:=some 29) (v:=undef) (a':=?_) (bN 24 16383) rfl rfl (any_of b.out (by kernel_rfl)) (fun _ _ _ h=>h) (Or.inr ⟨by rfl,rfl⟩) ?_ ?_
 rotate_left
 ·(
 simp only[zP,i64_w,i32_w]
 rfl)
 refine pure_ (i:=14) (N:=some 30) (v:=undef) (a':=?_) (bN 24 32767) rfl rfl (any_of b.out (by kernel_rfl)) (fun _ _ _ h=>h) (Or.inr ⟨by rfl,rfl⟩) ?_ ?_
 rotate_left
 ·(
 simp only[zP,i64_w,i32_w]
 rfl)
 refine pure_ (i:=15) (N:=some 31) (v:=undef) (a':=?_) (bN 24 65535) rfl rfl (any_of b.out (by kernel_rfl)) (fun _ _ _ h=>h) (Or.inr ⟨by rfl,rfl⟩) ?_ ?_
 rotate_left
 ·(
 simp only[zP,i64_w,i32_w]
 rfl)
 refine pure_ (i:=16) (N:=some 32) (v:=undef) (a':=?_) (bN 24 131071) rfl rfl (any_of b.out (by kernel_rfl)) (fun _ _ _ h=>h) (Or.inr ⟨by rfl,rfl⟩) ?_ ?_
 rotate_left
 ·(
 simp only[zP,i64_w,i32_w]
 rfl)
 refine pure_ (i:=17) (N:=some 33) (v:=undef) (a':=?_) (bN 24 262143) rfl rfl (any_of b.out (by kernel_rfl)) (fun _ _ _ h=>h) (Or.inr ⟨by rfl,rfl⟩) ?_ ?_
 rotate_left
 ·(
 simp only[zP,i64_w,i32_w]
 rfl)
 refine pure_ (i:=18) (N:=some 34) (v:=undef) (a':=?_) (bN 24 524287) rfl rfl (any_of b.out (by kernel_rfl)) (fun _ _ _ h=>h) (Or.inr ⟨by rfl,rfl⟩) ?_ ?_
 rotate_left
 ·(
 simp only[zP,i64_w,i32_w]
 rfl)
 refine pure_ (i:=19) (N:=some 35) (v:=undef) (a':=?_) (bN 24 1048575) rfl rfl (any_of b.out (by kernel_rfl)) (fun _ _ _ h=>h) (Or.inr ⟨by rfl,rfl⟩) ?_ ?_
 rotate_left
 ·(
 simp only[zP,i64_w,i32_w]
 rfl)
 refine pure_ (i:=20) (N:=some 36) (v:=undef) (a':=?_) (bN 24 2097151) rfl rfl (any_of b.out (by kernel_rfl)) (fun _ _ _ h=>h) (Or.inr ⟨by rfl,rfl⟩) ?_ ?_
 rotate_left
 ·(
 simp only[zP,i64_w,i32_w]
 rfl)
 refine pure_ (i:=21) (N:=some 37) (v:=undef) (a':=?_) (bN 24 4194303) rfl rfl (any_of b.out (by kernel_rfl)) (fun _ _ _ h=>h) (Or.inr ⟨by rfl,rfl⟩) ?_ ?_
 rotate_left
 ·(
 simp only[zP,i64_w,i32_w]
 rfl)
 refine pure_ (i:=22) (N:=some 38) (v:=undef) (a':=?_) (bN 24 8388607) rfl rfl (any_of b.out (by kernel_rfl)) (fun _ _ _ h=>h) (Or.inr ⟨by rfl,rfl⟩) ?_ ?_
 rotate_left
 ·(
 simp only[zP,i64_w,i32_w]
 rfl)
 refine pure_ (i:=23) (N:=some 39) (v:=?_) (a':=?_) (bN 24 16777215) rfl rfl (any_of b.out (by kernel_rfl)) (fun _ _ _ h=>h) (Or.inl ⟨by rfl,?_⟩) ?_ ?_
 rotate_left
 ·(
 intro w'
 go_simp
 with_reducible rfl)
 rotate_left
 ·(
 simp only[zP,i64_w,i32_w]
 rfl)
 refine done_ (done_of b.out (by kernel_rfl)) ?_
 try go_wp2
 go_meet
 case rel=>exact⟨_,(true),sr,H',⟨by first|omega|exact Nat.le_refl _⟩,⟨by exact sT c.out⟩,⟨sb⟩⟩)
 case rest=>(
 clear cc
 obtain⟨kq,bK,rfl,HA,dV,c,HB⟩:=hcut
 cases kq with
 |zero=>exact absurd HA.out (by simp[spec_l09At.j0])
 |succ kj8=>(
 have H:=HA.out
 clear HA
 simp only[spec_l09At.j0]at H
 by_cases b6:bK=true
 ·(
 subst b6
 rewrite[if_pos rfl]at H
 obtain rfl:=zI H
 go_wp2
 go_ret
 exact⟨sq,sb⟩)
 replace b6:=zB b6
 subst b6
 rewrite[if_neg zQ]at H
 by_cases b7:0<(l0.length:Int)
 ·(
 rw[if_pos b7]at H
 have c16b0:=zT b7
 have c16b1:decide (0<l0.length)=true:=zT (by omega)
 clear b7
 obtain rfl:=zI H
 try go_wp2
 replace c:=zM (blk_drew c.out)
 replace HB:=zM (below_drew1 HB.out)
 have cn:0≤(0:Int):=(by omega)
 have co:0<(l0.length:Int):=zO (by first|(with_reducible assumption)|assumption)
 obtain⟨ad247,dt,du,dv,dw,dx,bz,bA,bB,bC,bD,bE,bF,bG,bH,bI,cU,cV,cW,cX⟩:=at_T56 F.out 0 cn co
 have cp:=bI
 (try rw[sZ]at cp)
 have cq:=bH
 (try rw[sZ]at cq)
 have cr:=bG
 (try rw[sZ]at cr)
 have ct:=bF
 (try rw[sZ]at ct)
 have cu:=bE
 (try rw[sZ]at cu)
 have cv:=bD
 (try rw[sZ]at cv)
 have cw:=bC
 (try rw[sZ]at cw)
 have cx:=bB
 (try rw[sZ]at cx)
 have cy:=bA
 (try rw[sZ]at cy)
 have cz:=bz
 (try rw[sZ]at cz)
 obtain rfl:a=ad247:=(by injection dx)
 have dW:(0<l0.length)=True:=eq_true (by omega)
 (try rw[sZ]at bz)
 (try rw[sZ]at bA)
 (try rw[sZ]at bB)
 (try rw[sZ]at bC)
 (try rw[sZ]at bD)
 (try rw[sZ]at bE)
 (try rw[sZ]at bF)
 (try rw[sZ]at bG)
 (try rw[sZ]at bH)
 (try rw[sZ]at bI)
 replace bz:=sX HB bz
 replace bA:=sX HB bA
 replace bB:=sX HB bB
 replace bC:=sX HB bC
 replace bD:=sX HB bD
 replace bE:=sX HB bE
 replace bF:=sX HB bF
 replace bG:=sX HB bG
 replace bH:=sX HB bH
 replace bI:=sX HB bI
 have dy:=zM cV
 have dX:=zM cU
 clear cV cU
 have dz:=zM cX
 have dY:=zM cW
 clear cX cW
 replace cn:=eq_true cn
 replace co:=eq_true co
 refine start_ (n:=8) (S:=fun w'=>w'.cell? ⟨d,0,none⟩=some (.int .i64 a1_0)∧w'.cell? ⟨d,1,none⟩=some (.int .i64 a1_1)∧w'.cell? ⟨d,2,none⟩=some (.string a1_2)∧w'.cell? ⟨d,3,none⟩=some (.int .i64 a1_3)∧w'.cell? a=some (.int .i64 ((rd_T56 l0 0).f0))∧w'.cell? ⟨a.block,a.off+1,none⟩=some (.int .i64 ((rd_T56 l0 0).f1))∧w'.cell? ⟨a.block,a.off+2,none⟩=some (.string ((rd_T56 l0 0).f2))∧w'.cell? ⟨a.block,a.off+3,none⟩=some (.int .i64 ((rd_T56 l0 0).f3))∧w'.cell? ⟨a.block,a.off+4,none⟩=some (.slice dt ((rd_T56 l0 0).f4).length du)∧w'.cell? ⟨a.block,a.off+5,none⟩=some (.slice dv ((rd_T56 l0 0).f5).length dw)∧w'.cell? ⟨a.block,a.off+6,none⟩=some (.int .i64 ((rd_T56 l0 0).f6.f0))∧w'.cell? ⟨a.block,a.off+7,none⟩=some (.int .i64 ((rd_T56 l0 0).f6.f1))∧w'.cell? ⟨a.block,a.off+8,none⟩=some (.string ((rd_T56 l0 0).f6.f2))∧w'.cell? ⟨a.block,a.off+9,none⟩=some (.int .i64 ((rd_T56 l0 0).f6.f3))) (ds:=[]) #[false,false,false,false,false,false,false,false] (by kernel_rfl) rfl rfl ⟨(blk_cell c.out 0).trans rfl,(blk_cell c.out 1).trans rfl,(blk_cell c.out 2).trans rfl,(blk_cell c.out 3).trans rfl,((HB.out.cell (zL w _ cz)).trans cz),((HB.out.cell (zL w _ cy)).trans cy),((HB.out.cell (zL w _ cx)).trans cx),((HB.out.cell (zL w _ cw)).trans cw),((HB.out.cell (zL w _ cv)).trans cv),((HB.out.cell (zL w _ cu)).trans cu),((HB.out.cell (zL w _ ct)).trans ct),((HB.out.cell (zL w _ cr)).trans cr),((HB.out.cell (zL w _ cq)).trans cq),((HB.out.cell (zL w _ cp)).trans cp)⟩ (fun hHeld=>?_);refine with_tabW spec_l09At.tab5 spec_l09At.bits5 (fun b j=>?_)
 generalize wc.drew=w17 at c HB dy dz bz bA bB bC bD bE bF bG bH bI hHeld ⊢
 refine pure_ (i:=0) (N:=some 40) (v:=?_) (a':=?_) (bN 8 1) rfl rfl (any_of b.out (by kernel_rfl)) (fun _ _ _ h=>h) (Or.inl ⟨by rfl,?_⟩) ?_ ?_
 rotate_left
 ·(
 intro w'
 go_simp
 with_reducible rfl)
 rotate_left
 ·(
 simp only[zP,i64_w,i32_w]
 rfl)
 refine pure_ (i:=2) (N:=some 42) (v:=?_) (a':=?_) (bN 8 5) rfl rfl (any_of b.out (by kernel_rfl)) (fun _ _ _ h=>h) (Or.inl ⟨by rfl,?_⟩) ?_ ?_
 rotate_left
 ·(
 intro w'
 go_simp
 with_reducible rfl)
 rotate_left
 ·(
 simp only[zP,i64_w,i32_w]
 rfl)
 refine pure_ (i:=3) (N:=some 43) (v:=?_) (a':=?_) (bN 8 13) rfl rfl (any_of b.out (by kernel_rfl)) (fun _ _ _ h=>h) (Or.inl ⟨by rfl,?_⟩) ?_ ?_
 rotate_left
 ·(
 intro w'
 go_simp
 with_reducible rfl)
 rotate_left
 ·(
 simp only[zP,i64_w,i32_w]
 rfl)
 refine pure_ (i:=4) (N:=some 44) (v:=?_) (a':=?_) (bN 8 29) rfl rfl (any_of b.out (by kernel_rfl)) (fun _ _ _ h=>h) (Or.inl ⟨by rfl,?_⟩) ?_ ?_
 rotate_left
 ·(
 intro w'
 go_simp
 with_reducible rfl)
 rotate_left
 ·(
 simp only[zP,i64_w,i32_w]
 rfl)
 refine take_ (i:=1) (N:=some 41) (v:=?_) (a':=?_) (bN 8 31) rfl rfl (take_ofW b.out j.out (by kernel_rfl)) (fun _ _ _ h=>h) (Or.inl ⟨by rfl,?_⟩) hHeld ?_ ?_
 rotate_left
 ·(
 rintro w' ⟨l,m,o,p,q,s,u,x,y,z,A,B,D,E⟩
 go_simp
 with_reducible rfl)
 rotate_left
 ·(
 simp only[zP,i64_w,i32_w]
 rfl)
 refine take_ (i:=5) (N:=some 45) (v:=?_) (a':=?_) (bN 8 63) rfl rfl (take_ofW b.out j.out (by kernel_rfl)) (fun _ _ _ h=>h) (Or.inl ⟨by rfl,?_⟩) hHeld ?_ ?_
 rotate_left
 ·(
 rintro w' ⟨l,m,o,p,q,s,u,x,y,z,A,B,D,E⟩
 go_simp
 with_reducible rfl)
 rotate_left
 ·(
 simp only[zP,i64_w,i32_w]
 rfl)
 refine pure_ (i:=6) (N:=some 46) (v:=?_) (a':=?_) (bN 8 127) rfl rfl (any_of b.out (by kernel_rfl)) (fun _ _ _ h=>h) (Or.inl ⟨by rfl,?_⟩) ?_ ?_
 rotate_left
 ·(
 intro w'
 go_simp
 with_reducible rfl)
 rotate_left
 ·(
 simp only[zP,i64_w,i32_w]
 rfl)
 refine pure_ (i:=7) (N:=some 4) (v:=?_) (a':=?_) (bN 8 255) rfl rfl (any_of b.out (by kernel_rfl)) (fun _ _ _ h=>h) (Or.inl ⟨by rfl,?_⟩) ?_ ?_
 rotate_left
 ·(
 intro w'
 go_simp
 with_reducible rfl)
 rotate_left
 ·(
 simp only[zP,i64_w,i32_w]
 rfl)
 refine done_ (done_of b.out (by kernel_rfl)) ?_
 try go_wp2
 go_ret
 exact⟨sq,sb⟩)
 rw[if_neg b7]at H
 exact absurd H (by simp))))
 rw[if_neg c3]at H
 exact absurd H (by simp)
end Go.Proofs.Ytengilknjiobiaa.PFnExactGetElement
