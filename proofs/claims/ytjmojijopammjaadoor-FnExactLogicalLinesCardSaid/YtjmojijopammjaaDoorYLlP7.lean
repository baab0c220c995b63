/- Printed functions: impl_LogicalLines. -/
import Derived.Test.YtjmojijopammjaaDoorYLlP0
import Derived.Test.YtjmojijopammjaaDoorYLlP5
import Derived.Test.YtjmojijopammjaaDoorYLlP6
namespace Go.Proofs.YtjmojijopammjaaDoor.PFnExactLogicalLines
open Go.RowKit Go.Proofs.YtjmojijopammjaaDoorG Go.Proofs.YtjmojijopammjaaDoorW.PrintWords Go.Proofs.YtjmojijopammjaaDoorW.PrintLast Go.Proofs.YtjmojijopammjaaDoorW.PrintMore
attribute [local go_sem] max2_int min2_int max_two min_two max_three min_three max_four min_four
set_option linter.unusedVariables false
set_option linter.unusedSimpArgs false
mutual
def impl_LogicalLines.l0 : Nat → List (S88) → List (S88) → Int → Int → Option ((List (S88)) × Int × Int)
 |0,_,_,_,_=>none
 |k+1,x7,x24,x25,x26=>if x26<x25 then(if 0≤x26 then(if x26<(x24.length:Int)then((impl_SplitStatements.f k ((rd_T88 x24 x26).f1)).bind fun t227=>(impl_LogicalLines.l1 k x7 x24 x25 x26 t227 (t227.length:Int) 0 ((rd_T88 x24 x26).f0) ((rd_T88 x24 x26).f1)))else(none))else(none))else(some (x7,0,0))
def impl_LogicalLines.l1 : Nat → List (S88) → List (S88) → Int → Int → List ByteArray → Int → Int → Int → ByteArray → Option ((List (S88)) × Int × Int)
 |0,_,_,_,_,_,_,_,_,_=>none
 |k+1,x7,x24,x25,x26,x32,x33,x34,x227000,x227001=>if x34<x33 then(if 0≤x34 then(if x34<(x32.length:Int)then((impl_IsBlankLine.f (rdOf ByteArray.empty x32 x34)).bind fun t231=>(if t231=true then(impl_LogicalLines.l1 k x7 x24 x25 x26 x32 x33 (wrap64 (x34+1)) x227000 x227001)else(if x7.length<5864062014805 then(impl_LogicalLines.l1 k (x7++[(⟨x227000,rdOf ByteArray.empty x32 x34⟩:S88)]) x24 x25 x26 x32 x33 (wrap64 (x34+1)) x227000 x227001)else(none))))else(none))else(none))else(impl_LogicalLines.l0 k x7 x24 x25 (wrap64 (x26+1)))
end
def impl_LogicalLines.f (k:Nat) (a0:ByteArray):Option ((List (S88))×Int×Int):=(impl_ValidSource.f k a0).bind fun t217=>(if t217=true then((impl_combine.f k a0).bind fun bt218=>(if bt218.2>0 then(some (([]:List (S88)),bt218.2,2))else(impl_LogicalLines.l0 k (([]:List (S88))) bt218.1 (bt218.1.length:Int) 0)))else(some (([]:List (S88)),0,1)))
set_option maxHeartbeats 8000000 in
set_option maxRecDepth 100000 in
theorem impl_LogicalLines.calls (k:Nat) (a0:ByteArray) (r1:List (S88)) (r2:Int) (r3:Int) (w:World) (h:impl_LogicalLines.f k a0=some (r1,r2,r3)) (HT:EnvT w):
  Calls Tryd.prog 25 #[.string a0] w fun e w'=>∃af:Value,e= .returned (.tuple #[af,.int .i64 r2,.int .i64 r3])∧Kd.R k88 88 w' w.heap.size (fun _=>True) af r1∧Below w.heap.size w w':=by
 have aQ:=Tryd.underlying88
 have HB:=zM (Below.refl w.heap.size w)
 have H:((impl_ValidSource.f k a0).bind fun ab=>(if ab=true then((impl_combine.f k a0).bind fun T=>(if T.2>0 then(some (([]:List (S88)),T.2,2))else(impl_LogicalLines.l0 k (([]:List (S88))) T.1 (T.1.length:Int) 0)))else(some (([]:List (S88)),0,1))))=some (r1,r2,r3):=h
 clear h
 obtain⟨ab,A2,H⟩:=sO H
 by_cases B:ab=true
 ·(
 subst B
 rewrite[if_pos rfl]at H
 replace H:=Option.bind_eq_some_iff.mp H
 obtain⟨⟨a,v⟩,ag,H⟩:=H
 replace H:(if v>0 then(some (([]:List (S88)),v,2))else(impl_LogicalLines.l0 k (([]:List (S88))) a (a.length:Int) 0))=some (r1,r2,r3):=H
 have A4:=zM ag
 clear ag
 by_cases r:v>0
 ·(
 rw[if_pos r]at H
 have c5b0:decide (0<v)=true:=zT r
 clear r
 simp only[Option.some.injEq,Prod.mk.injEq]at H
 obtain⟨rfl,rfl,rfl⟩:=H
 go_enter Tryd.func25,Tryd.ntmps25
 go_wp2_with (first|((with_reducible refine gate_callee (f:=68) rfl ?_);refine sC (some 13) Tryd.func68 #[.string a0] (impl_ValidSource.calls k a0 true _ A2.out (by first|with_reducible exact HT|exact EnvT.below HT sb)) ?_;rintro e w6 ⟨rfl,hb⟩;refine⟨_,rfl,?_⟩;replace HB:=sB HB hb;(try clear hb))|((with_reducible refine gate_callee (f:=69) rfl ?_);refine sC (some 17) Tryd.func69 #[.string a0] (impl_combine.calls k a0 a v _ A4.out (by first|with_reducible exact HT|exact EnvT.below HT sb)) ?_;rintro e w7 ⟨al,rfl,s,hb⟩;refine⟨_,rfl,?_⟩;have C:=zM (Kd.R_lower s (below_size (sH HB.out)));replace HB:=sB HB hb;(try clear hb);(try clear s)))
 go_ret3
 exact⟨_,sq,by first|exact Kd.R_nil _ _ _ _ _|exact Kd.N_nil _ _ _ _ _|exact Kd.V_nil _ _ _ _ _|exact Kd.Q_nil _ _ _ _ _|exact Kd.S_nil _ _ _ _ _,sb⟩)
 rw[if_neg r]at H
 have c5b0:decide (0<v)=false:=zF r
 clear r
 obtain⟨y222,hy222⟩:∃y_:List (S88),y_=(([]:List (S88))):=⟨_,rfl⟩
 replace H:(impl_LogicalLines.l0 k y222 a (a.length:Int) 0)=some (r1,r2,r3):=by first|(rw[hy222];with_reducible exact H)|(have x:=(Option.bind_some _ _).symm.trans H;rw[hy222];with_reducible exact x)|(have x:=(Option.bind_some _ _).symm.trans H;with_reducible exact x)|with_reducible exact H|(rw[hy222];exact H)|exact H
 have ah:=zM hy222
 clear hy222
 have H':=zM H
 clear H
 go_enter Tryd.func25,Tryd.ntmps25
 go_wp2_with (first|((with_reducible refine gate_callee (f:=68) rfl ?_);refine sC (some 13) Tryd.func68 #[.string a0] (impl_ValidSource.calls k a0 true _ A2.out (by first|with_reducible exact HT|exact EnvT.below HT sb)) ?_;rintro e w8 ⟨rfl,hb⟩;refine⟨_,rfl,?_⟩;replace HB:=sB HB hb;(try clear hb))|((with_reducible refine gate_callee (f:=69) rfl ?_);refine sC (some 17) Tryd.func69 #[.string a0] (impl_combine.calls k a0 a v _ A4.out (by first|with_reducible exact HT|exact EnvT.below HT sb)) ?_;rintro e w9 ⟨al,rfl,s,hb⟩;refine⟨_,rfl,?_⟩;have C:=zM (Kd.R_lower s (below_size (sH HB.out)));replace HB:=sB HB hb;(try clear hb);(try clear s))|((with_reducible refine gate_dst (N:=23) rfl ?_);refine Kd.R_lit k88 _ 88 ?hg (N:=23) ?hd (xs:=([]:List (S88))) (inner:=[]) (ok:=fun _=>True) (okp:=fun _=>True) ?hr ?hp (fun _ hk=>hk) trivial (Below.refl _ _) (Nat.le_refl _) (by simp) ?_;(case hd=>rfl);(case hg=>rfl);(case hr=>first|(go_simp;done)|(go_simp;rfl));(case hp=>exact(Reps.none _ _));intro aR aT D hb am an;clear am an;(first|rw[←ah.out]at D|(simp only[Int.reduceToNat]at D;rw[←ah.out]at D));have ao:=zM (Kd.R_lower (Kd.R_new' D (Kd.R_lt (sE C.out))) (below_size (sH HB.out)));replace C:=zM (Kd.R_elder' (sE C.out) (Kd.R_base D) hb);replace HB:=sB HB hb;clear hb D;obtain⟨ai,I,ap⟩:=Kd.R_slice C.out;subst ap))
 go_loopg [7,26] k (fun kq J aq w'=>∃(U:List (S88)) (c:Int),aq= .int .i64 c∧Aside0 (impl_LogicalLines.l0 kq U a (a.length:Int) c=some (r1,r2,r3))∧Aside0 (kq≤k)∧Aside0 (Kd.R k88 88 w' w.heap.size (fun i=>some i≠((.slice ai a.length I):Value).ownBlock) J U)∧Aside0 (Kd.R k88 88 w' w.heap.size (fun i=>some i≠(J:Value).ownBlock) (.slice ai a.length I) a)∧Aside0 (Below w.heap.size w w'))
 case atStart=>exact⟨(y222),(0),sr,H',⟨Nat.le_refl _⟩,⟨by(with_reducible repeat(first|apply Kd.R_alloc|apply Kd.R_drewN|apply Kd.R_drew));exact Kd.R_mono ao.out (fun _ hk=>hk.2)⟩,⟨by(with_reducible repeat(first|apply Kd.R_alloc|apply Kd.R_drewN|apply Kd.R_drew));exact Kd.R_mono C.out (fun _ hk=>hk.2)⟩,⟨sb⟩⟩
 case round=>(
 clear H'
 try clear B
 try clear r
 try clear c5b0
 obtain⟨U,c,rfl,HA,E,m,j,HB⟩:=hrel
 cases gk with
 |zero=>exact absurd HA.out (by simp[impl_LogicalLines.l0])
 |succ k1=>(
 have H:=HA.out
 clear HA
 simp only[impl_LogicalLines.l0]at H
 by_cases y:c<(a.length:Int)
 ·(
 rw[if_pos y]at H
 have c13b0:=zT y
 clear y
 by_cases K:0≤c
 ·(
 rw[if_pos K]at H
 have c14b0:=zT K
 clear K
 by_cases L:c<(a.length:Int)
 ·(
 rw[if_pos L]at H
 have c15b0:=zT L
 clear L
 obtain⟨l,ar,H⟩:=sO H
 have H':=zM H
 clear H
 have V:0≤(c:Int):=zzA
 have W:c<(a.length:Int):=zzA
 obtain⟨ac,au,av,aw⟩:=at_T88 (Kd.R_reads' j.out).2.2 c V W
 cases au
 replace V:=eq_true V
 replace W:=eq_true W
 go_wp2_with (first|((with_reducible refine gate_dst (N:=9) rfl ?_);refine sV (N:=9) (cs:= #[.int .i64 0,.string (⟨#[]⟩:ByteArray)]) (t:=88) ?_;intro p hg aU hbox hb;replace m:=zM (Kd.R_below (Kd.R_elderB (sE m.out) p (Nat.le_of_eq hg.symm)) hb);replace j:=zM (Kd.R_below (Kd.R_elderB (sE j.out) p (Nat.le_of_eq hg.symm)) hb);have n:=zM (hbox);have aV:=sG HB hg;have ad:=sG HB hg;replace HB:=sB HB hb;clear hb hbox hg;obtain⟨ax,ay,az,aA⟩:=cells2 n.out)|((with_reducible refine gate_callee (f:=70) rfl ?_);refine sC (some 32) Tryd.func70 #[.string ((rd_T88 a c).f1)] (impl_SplitStatements.calls k1 ((rd_T88 a c).f1) l _ ar.out) ?_;rintro e aW ⟨aX,rfl,s,hb⟩;refine⟨_,rfl,?_⟩;have M:=zM (Kd.R_below (by(with_reducible repeat(first|apply Kd.R_alloc|apply Kd.R_drewN|apply Kd.R_drew));exact(Kd.R_mono (sRF2 (g:=p) (Kd.R_mono m.out (fun i hk=>(⟨hk,hk.2⟩:_∧i≠p))) (fun _ hk=>hk.2)) (fun _ h_=>h_.1))) hb);have O:=zM (Kd.R_below (by(with_reducible repeat(first|apply Kd.R_alloc|apply Kd.R_drewN|apply Kd.R_drew));exact(Kd.R_mono (sRF2 (g:=p) (Kd.R_mono j.out (fun i hk=>(⟨hk,hk.2⟩:_∧i≠p))) (fun _ hk=>hk.2)) (fun _ h_=>h_.1))) hb);have P:=zM (Kd.R_lower s (below_size zzR));have Q:=zM (blk_below (g:=p) (o:= .cells #[.int .i64 ((rd_T88 a c).f0),.string ((rd_T88 a c).f1)] 88 (0,0)) (by exact sP2 (sT n.out)) hb);have S:=sB HB hb;clear m;clear j;clear n;clear HB;have m:=M;have j:=O;have aj:=P;have n:=Q;have HB:=S;clear M O P Q S;(try clear hb);(try clear hk);(try clear s);obtain⟨aC,aD,aE⟩:=Kd.R_slice aj.out;subst aE))
 go_loopg [7,34] k1 (fun kq J aG w'=>∃(u:List (S88)) (d:Int),aG= .int .i64 d∧Aside0 (impl_LogicalLines.l1 kq u a (a.length:Int) c l (l.length:Int) d ((rd_T88 a c).f0) ((rd_T88 a c).f1)=some (r1,r2,r3))∧Aside0 (kq≤k1)∧Aside0 (Kd.R k88 88 w' w.heap.size (fun i=>some i≠((.slice (some ac) a.length I):Value).ownBlock∧i≠p) J u)∧Aside0 (Kd.R k88 88 w' w.heap.size (fun i=>some i≠(J:Value).ownBlock∧i≠p) (.slice (some ac) a.length I) a)∧Aside0 (Kd.R Kd.string 9 w' w.heap.size (fun _=>True) (.slice aC l.length aD) l)∧Aside0 (w'.heap[p]?=some (.cells #[.int .i64 ((rd_T88 a c).f0),.string ((rd_T88 a c).f1)] 88 (0,0)))∧Aside0 (Below w.heap.size w w'))
 case atStart=>exact⟨(U),(0),sr,H',⟨Nat.le_refl _⟩,⟨by exact sE m.out⟩,⟨by exact sE j.out⟩,⟨by exact sE aj.out⟩,⟨by exact sT n.out⟩,⟨sb⟩⟩
 case round=>(
 clear H'
 try clear B
 try clear r
 try clear c5b0
 try clear y
 try clear c13b0
 try clear K
 try clear c14b0
 try clear L
 try clear c15b0
 try clear ax
 try clear ay
 try clear az
 try clear aA
 try clear av
 try clear aw
 try clear V
 try clear W
 obtain⟨u,d,rfl,HA,F,m,j,q,n,HB⟩:=hrel
 cases gk with
 |zero=>exact absurd HA.out (by simp[impl_LogicalLines.l1])
 |succ k2=>(
 have H:=HA.out
 clear HA
 simp only[impl_LogicalLines.l1]at H
 by_cases G:d<(l.length:Int)
 ·(
 rw[if_pos G]at H
 have c21b0:=zT G
 clear G
 by_cases X:0≤d
 ·(
 rw[if_pos X]at H
 have c22b0:=zT X
 clear X
 by_cases Y:d<(l.length:Int)
 ·(
 rw[if_pos Y]at H
 have c23b0:=zT Y
 clear Y
 obtain⟨aH,ak,H⟩:=sO H
 by_cases Z:aH=true
 ·(
 subst Z
 rewrite[if_pos rfl]at H
 have H':=zM H
 clear H
 have z:0≤(d:Int):=zzA
 have A:d<(l.length:Int):=zzA
 obtain⟨aI,ae,aJ⟩:=Kd.at_string (Kd.R_reads' q.out).2.2 d z A
 cases ae
 replace z:=eq_true z
 replace A:=eq_true A
 go_wp2_with (first|((with_reducible refine gate_callee (f:=71) rfl ?_);refine sC (some 39) Tryd.func71 #[.string (rdOf ByteArray.empty l d)] (impl_IsBlankLine.calls (rdOf ByteArray.empty l d) true _ ak.out) ?_;rintro e aY ⟨rfl,hb⟩;refine⟨_,rfl,?_⟩;replace m:=zM (Kd.R_below (sE m.out) hb);replace j:=zM (Kd.R_below (sE j.out) hb);replace q:=zM (Kd.R_below (sE q.out) hb);replace n:=sK n hb;replace HB:=sB HB hb;(try clear hb)))
 go_roundg k2
 case measure=>have:=E.out;have:=F.out;omega
 case rel=>exact⟨(u),(wrap64 (d+1)),sr,H',⟨by have:=E.out;have:=F.out;omega⟩,⟨by exact sE m.out⟩,⟨by exact sE j.out⟩,⟨by exact sE q.out⟩,⟨by exact sT n.out⟩,⟨sb⟩⟩)
 replace Z:=zB Z
 subst Z
 rewrite[if_neg zQ]at H
 by_cases aa:u.length<5864062014805
 ·(
 rw[if_pos aa]at H
 have aK:=zM aa
 clear aa
 obtain⟨y232,hy232⟩:∃y_:List (S88),y_=(u++[(⟨((rd_T88 a c).f0),rdOf ByteArray.empty l d⟩:S88)]):=⟨_,rfl⟩
 replace H:(impl_LogicalLines.l1 k2 y232 a (a.length:Int) c l (l.length:Int) (wrap64 (d+1)) ((rd_T88 a c).f0) ((rd_T88 a c).f1))=some (r1,r2,r3):=by first|(rw[hy232];with_reducible exact H)|(have x:=(Option.bind_some _ _).symm.trans H;rw[hy232];with_reducible exact x)|(have x:=(Option.bind_some _ _).symm.trans H;with_reducible exact x)|with_reducible exact H|(rw[hy232];exact H)|exact H
 have aM:=zM hy232
 clear hy232
 have H':=zM H
 clear H
 have z:0≤(d:Int):=zzA
 have A:d<(l.length:Int):=zzA
 obtain⟨aI,ae,aJ⟩:=Kd.at_string (Kd.R_reads' q.out).2.2 d z A
 cases ae
 replace z:=eq_true z
 replace A:=eq_true A
 go_wp2_with (first|((with_reducible refine gate_callee (f:=71) rfl ?_);refine sC (some 39) Tryd.func71 #[.string (rdOf ByteArray.empty l d)] (impl_IsBlankLine.calls (rdOf ByteArray.empty l d) false _ ak.out) ?_;rintro e aZ ⟨rfl,hb⟩;refine⟨_,rfl,?_⟩;replace m:=zM (Kd.R_below (sE m.out) hb);replace j:=zM (Kd.R_below (sE j.out) hb);replace q:=zM (Kd.R_below (sE q.out) hb);replace n:=sK n hb;replace HB:=sB HB hb;(try clear hb);obtain⟨a1,a2,a3,a4⟩:=cells2 n.out)|((with_reducible refine gate_builtin (b:= .append) (xs:= #[.tmp 41,.tmp 46]) rfl ?_);at_builtin;refine Kd.R_append k88 (w0:=w) w.heap.size rfl (.tmp 41) (.tmp 46) 46 88 (.agg #[(.int .i64 0),(.string ⟨#[]⟩)]) 24 rfl Tryd.underlying46 info88 rfl (by decide) (by omega) u7 u (⟨((rd_T88 a c).f0),rdOf ByteArray.empty l d⟩:S88) [.int .i64 ((rd_T88 a c).f0),.string (rdOf ByteArray.empty l d)] (fun i=>some i≠(.slice (some ac) a.length I:Value).ownBlock∧i≠p) (fun _=>False) rfl rfl ?aP (fun _ hk=>hk.elim) ?aF ?aO ?aB ?aS ?aL ?_;(case aP=>exact k88_mkM _ _ _ (⟨((rd_T88 a c).f0),rdOf ByteArray.empty l d⟩:S88));(case aB=>exact zzR);(case aF=>exact(fun i hk=>⟨Kd.fresh' (Kd.R_lt (sE j.out)) i hk,Kd.freshB (g:=p) (o:= .cells #[.int .i64 ((rd_T88 a c).f0),.string ((rd_T88 a c).f1)] 88 (0,0)) (sT n.out) i hk⟩));(case aO=>exact(sE m.out));(case aS=>exact(below_size zzR));(case aL=>have:=aK.out;omega);intro a5 a6 ho hb hg hat;rw[←aM.out]at ho;have M:=zM (Kd.R_after (ok:=(fun i=>i≠p)) (by(with_reducible repeat(first|apply Kd.R_alloc|apply Kd.R_drewN|apply Kd.R_drew));exact Kd.R_mono j.out (fun _ hk=>⟨hk.2,hk.1⟩)) hg hat);have O:=zM (Kd.R_over' (sE q.out) (Kd.R_typed (sE m.out)) (by decide) hg);have P:=zM (blk_grown (g:=p) (o:= .cells #[.int .i64 ((rd_T88 a c).f0),.string ((rd_T88 a c).f1)] 88 (0,0)) (sT n.out) hg (Kd.R_away m.out (fun _ hk=>hk.2)));have Q:=zM (hb);have S:=zM (ho);clear j;clear q;clear n;clear HB;clear m;have j:=M;have q:=O;have n:=P;have HB:=Q;have aN:=S;clear M O P Q S;clear ho hb hg hat))
 go_roundg k2
 case measure=>have:=E.out;have:=F.out;omega
 case rel=>exact⟨(y232),(wrap64 (d+1)),sr,H',⟨by have:=E.out;have:=F.out;omega⟩,⟨by exact sE aN.out⟩,⟨by(with_reducible repeat(first|apply Kd.R_alloc|apply Kd.R_drewN|apply Kd.R_drew));exact Kd.R_mono j.out (fun _ hk=>⟨hk.2,hk.1⟩)⟩,⟨by exact sE q.out⟩,⟨by exact sT n.out⟩,⟨sb⟩⟩)
 rw[if_neg aa]at H
 exact absurd H (by simp))
 rw[if_neg Y]at H
 exact absurd H (by simp))
 rw[if_neg X]at H
 exact absurd H (by simp))
 rw[if_neg G]at H
 have c21b0:=zF G
 clear G
 have H':=zM H
 clear H
 go_wp2
 go_roundg k2
 case measure=>have:=E.out;have:=F.out;omega
 case rel=>exact⟨(u),(wrap64 (c+1)),sr,H',⟨by have:=E.out;have:=F.out;omega⟩,⟨by(with_reducible repeat(first|apply Kd.R_alloc|apply Kd.R_drewN|apply Kd.R_drew));exact Kd.R_mono m.out (fun _ hk=>hk.1)⟩,⟨by(with_reducible repeat(first|apply Kd.R_alloc|apply Kd.R_drewN|apply Kd.R_drew));exact Kd.R_mono j.out (fun _ hk=>hk.1)⟩,⟨sb⟩⟩)))
 rw[if_neg L]at H
 exact absurd H (by simp))
 rw[if_neg K]at H
 exact absurd H (by simp))
 rw[if_neg y]at H
 have c13b0:=zF y
 clear y
 simp only[Option.some.injEq,Prod.mk.injEq]at H
 obtain⟨rfl,rfl,rfl⟩:=H
 go_wp2
 go_ret3
 exact⟨_,sq,by(with_reducible repeat(first|apply Kd.R_alloc|apply Kd.R_drewN|apply Kd.R_drew));exact Kd.R_mono m.out (fun _ hk=>trivial),sb⟩)))
 replace B:=zB B
 subst B
 rewrite[if_neg zQ]at H
 simp only[Option.some.injEq,Prod.mk.injEq]at H
 obtain⟨rfl,rfl,rfl⟩:=H
 go_enter Tryd.func25,Tryd.ntmps25
 go_wp2_with (first|((with_reducible refine gate_callee (f:=68) rfl ?_);refine sC (some 13) Tryd.func68 #[.string a0] (impl_ValidSource.calls k a0 false _ A2.out (by first|with_reducible exact HT|exact EnvT.below HT sb)) ?_;rintro e a7 ⟨rfl,hb⟩;refine⟨_,rfl,?_⟩;replace HB:=sB HB hb;(try clear hb)))
 go_ret3
 exact⟨_,sq,by first|exact Kd.R_nil _ _ _ _ _|exact Kd.N_nil _ _ _ _ _|exact Kd.V_nil _ _ _ _ _|exact Kd.Q_nil _ _ _ _ _|exact Kd.S_nil _ _ _ _ _,sb⟩
end Go.Proofs.YtjmojijopammjaaDoor.PFnExactLogicalLines
