/- Printed functions: spec_l08New, spec_l08Move, spec_l08MoveAll. -/
import Derived.Test.YtpdljgieaaicpaaYLsP0
import Derived.Test.YtpdljgieaaicpaaYLsP4
namespace Go.Proofs.Ytpdljgieaaicpaa.PFnExactLiveSize
open Go.RowKit Go.Proofs.YtpdljgieaaicpaaG Go.Proofs.YtpdljgieaaicpaaW.PrintWords Go.Proofs.YtpdljgieaaicpaaW.PrintLast Go.Proofs.YtpdljgieaaicpaaW.PrintMore
attribute [local go_sem] max2_int min2_int max_two min_two max_three min_three max_four min_four
set_option linter.unusedVariables false
set_option linter.unusedSimpArgs false
def spec_l08New.l0 : Nat → List Int → Int → Int → Option (Int)
 |0,_,_,_=>none
 |k+1,x0,x1,x5=>if x5<(x0.length:Int)then(if 0≤x5 then(if(rd x0 x5)=x1 then(some (wrap64 (x5+1)))else(spec_l08New.l0 k x0 x1 (wrap64 (x5+1))))else(none))else(some 0)
def spec_l08New.f (k:Nat) (l0:List Int) (a1:Int):Option (Int):=spec_l08New.l0 k l0 a1 0
set_option maxHeartbeats 8000000 in
set_option maxRecDepth 100000 in
theorem spec_l08New.calls (k:Nat) (A0:Option Addr) (c0:Nat) (l0:List Int) (a1:Int) (r:Int) (w:World) (hr0:Kd.C (Kd.int .i64) w A0 l0.length l0) (hc0:l0.length≤c0) (h:spec_l08New.f k l0 a1=some r):
  Calls Try.prog 104 #[.slice A0 l0.length c0,.int .i64 a1] w fun e w'=>e= .returned (.int .i64 r)∧Drawn0 w w':=by
 have m:=zM hr0
 have s:=zM hc0
 clear hr0 hc0
 have H:(spec_l08New.l0 k l0 a1 0)=some r:=h
 clear h
 have H':=zM H
 clear H
 go_enter Try.func104,Try.ntmps104
 go_wp2
 go_loopg [5] k (fun kq o w'=>∃(a:Int),o= .int .i64 a∧Aside0 (spec_l08New.l0 kq l0 a1 a=some r)∧Aside0 (kq≤k)∧Drawn0 w w')
 case atStart=>exact⟨(0),sr,H',⟨Nat.le_refl _⟩,by repeat(first|exact Drawn0.refl _|apply Drawn0.step)⟩
 case round=>(
 clear H'
 obtain⟨a,rfl,HA,n,⟨u,rfl⟩⟩:=hrel
 cases gk with
 |zero=>exact absurd HA.out (by simp[spec_l08New.l0])
 |succ k1=>(
 have H:=HA.out
 clear HA
 simp only[spec_l08New.l0]at H
 by_cases i:a<(l0.length:Int)
 ·(
 rw[if_pos i]at H
 have c3b0:=zT i
 clear i
 by_cases j:0≤a
 ·(
 rw[if_pos j]at H
 have c4b0:=zT j
 clear j
 by_cases c:(rd l0 a)=a1
 ·(
 rw[if_pos c]at H
 have c5b0:((rd l0 a)==a1)=true:=zE c
 have c5b1:((rd l0 a) !=a1)=false:=zY c
 clear c
 obtain rfl:=zI H
 have d:0≤(a:Int):=zzA
 have g:a<(l0.length:Int):=zzA
 obtain⟨p,l,q⟩:=Kd.at_int m.out a d g
 cases l
 replace d:=eq_true d
 replace g:=eq_true g
 go_wp2
 go_ret
 exact⟨by first|rfl|(simp;done)|(simp[*];done),by repeat(first|exact Drawn0.refl _|apply Drawn0.step)⟩)
 rw[if_neg c]at H
 have c5b0:((rd l0 a)==a1)=false:=zN c
 have c5b1:((rd l0 a) !=a1)=true:=zX c
 have H':=zM H
 clear H
 have d:0≤(a:Int):=zzA
 have g:a<(l0.length:Int):=zzA
 obtain⟨p,l,q⟩:=Kd.at_int m.out a d g
 cases l
 replace d:=eq_true d
 replace g:=eq_true g
 go_wp2
 go_roundg k1
 case measure=>have:=n.out;omega
 case rel=>exact⟨(wrap64 (a+1)),sr,H',⟨by have:=n.out;omega⟩,by repeat(first|exact Drawn0.refl _|apply Drawn0.step)⟩)
 rw[if_neg j]at H
 exact absurd H (by simp))
 rw[if_neg i]at H
 have c3b0:=zF i
 clear i
 obtain rfl:=zI H
 go_wp2
 go_ret
 exact⟨by first|rfl|(simp;done)|(simp[*];done),by repeat(first|exact Drawn0.refl _|apply Drawn0.step)⟩))
def spec_l08Move.f (k:Nat) (l0:List Int) (a1_0:Int) (a1_1:Int) (a1_2:ByteArray) (a1_3:Int):Option (Int×Int×ByteArray×Int):=(spec_l07IsRef.f a1_0 a1_1 a1_2 a1_3).bind fun t268=>(if t268=true then((spec_l08New.f k l0 a1_3).bind fun t269=>(some (a1_0,a1_1,a1_2,t269)))else(some (a1_0,a1_1,a1_2,a1_3)))
set_option maxHeartbeats 8000000 in
set_option maxRecDepth 100000 in
theorem spec_l08Move.calls (k:Nat) (A0:Option Addr) (c0:Nat) (l0:List Int) (a1_0:Int) (a1_1:Int) (a1_2:ByteArray) (a1_3:Int) (r1:Int) (r2:Int) (r3:ByteArray) (r4:Int) (w:World) (hr0:Kd.C (Kd.int .i64) w A0 l0.length l0) (hc0:l0.length≤c0) (h:spec_l08Move.f k l0 a1_0 a1_1 a1_2 a1_3=some (r1,r2,r3,r4)):
  Calls Try.prog 80 #[.slice A0 l0.length c0,.agg #[.int .i64 a1_0,.int .i64 a1_1,.string a1_2,.int .i64 a1_3]] w fun e w'=>e= .returned (.agg #[.int .i64 r1,.int .i64 r2,.string r3,.int .i64 r4])∧Below w.heap.size w w':=by
 have E:=Try.underlying62
 have y:=zM hr0
 have z:=zM hc0
 clear hr0 hc0
 have HB:=zM (Below.refl w.heap.size w)
 have H:((spec_l07IsRef.f a1_0 a1_1 a1_2 a1_3).bind fun m=>(if m=true then((spec_l08New.f k l0 a1_3).bind fun g=>(some (a1_0,a1_1,a1_2,g)))else(some (a1_0,a1_1,a1_2,a1_3))))=some (r1,r2,r3,r4):=h
 clear h
 obtain⟨m,o,H⟩:=sO H
 by_cases i:m=true
 ·(
 subst i
 rewrite[if_pos rfl]at H
 obtain⟨g,A,H⟩:=sO H
 simp only[Option.some.injEq,Prod.mk.injEq]at H
 obtain⟨rfl,rfl,rfl,rfl⟩:=H
 go_enter Try.func80,Try.ntmps80
 go_wp2_with (first|((with_reducible refine gate_dst (N:=3) rfl ?_);refine sV (N:=3) (cs:= #[.int .i64 a1_0,.int .i64 a1_1,.string a1_2,.int .i64 a1_3]) (t:=62) ?_;intro p hg F hbox hb;have a:=zM (hbox);have B:=sG HB hg;have q:=sG HB hg;replace HB:=sB HB hb;clear hb hbox hg)|((with_reducible refine gate_dst (N:=4) rfl ?_);refine sV (N:=4) (cs:= #[.int .i64 0,.int .i64 0,.string (⟨#[]⟩:ByteArray),.int .i64 0]) (t:=62) ?_;intro j hg G hbox hb;have c:=zM (hbox);have D:=sG HB hg;have s:=sG HB hg;replace HB:=sB HB hb;have n:=sN a hg;have l:=sM a hg;replace a:=sK a hb;clear hb hbox hg;have I:=n.out;have J:=l.out;obtain⟨K,L,M,O,P,Q,S,T⟩:=cells4 a.out)|((with_reducible refine gate_callee (f:=93) rfl ?_);refine sC (some 6) Try.func93 #[.agg #[.int .i64 a1_0,.int .i64 a1_1,.string a1_2,.int .i64 a1_3]] (spec_l07IsRef.calls a1_0 a1_1 a1_2 a1_3 true _ o.out) ?_;rintro e d ⟨rfl,hb⟩;refine⟨_,rfl,?_⟩;replace a:=sK a hb;replace c:=sK c hb;replace HB:=sB HB hb;(try clear hb);obtain⟨U,V,W,X,Y,Z,aa,ab⟩:=cells4 a.out)|((with_reducible refine gate_callee (f:=104) rfl ?_);refine sC (some 10) Try.func104 #[.slice A0 l0.length c0,.int .i64 a1_3] (spec_l08New.calls k _ _ l0 a1_3 g _ ?side1 ?side2 A.out) ?_;(case side1=>exact sD (zC y.out HB.out));(case side2=>exact z.out);rintro e w' ⟨rfl,⟨nd,rfl⟩⟩;refine⟨_,rfl,?_⟩;(try(rw[drewN_self d];generalize hq_:World.drewN d _=d;have u:Aside0 (d.heap[p]?=some (.cells #[.int .i64 a1_0,.int .i64 a1_1,.string a1_2,.int .i64 a1_3] 62 (0,0))):=⟨by rw[←hq_];exact(sT a.out)⟩;have v:Aside0 (d.heap[j]?=some (.cells #[.int .i64 0,.int .i64 0,.string (⟨#[]⟩:ByteArray),.int .i64 0] 62 (0,0))):=⟨by rw[←hq_];exact(sT c.out)⟩;have x:Aside0 (Below w.heap.size w d):=⟨by rw[←hq_];exact zzR⟩;clear a c HB hq_;have a:=u;have c:=v;have HB:=x;clear u v x));obtain⟨ac,ad,ae,af,ag,ah,ai,aj⟩:=cells4 a.out;obtain⟨ak,al,am,an,ao,ap,aq,ar⟩:=cells4 c.out))
 refine bodyPost_ret (results_cell_row rfl _ _ j 62 #[.int .i64 a1_0,.int .i64 a1_1,.string a1_2,.int .i64 g] (0,0) _ rfl (by(with_reducible repeat(first|refine blk_drewN ?_ _|refine blk_drew ?_|refine blk_alloc ?_ _));refine blk_put (cs:= #[.int .i64 a1_0,.int .i64 a1_1,.string a1_2,.int .i64 0]) ?_ 3 _ rfl;(with_reducible repeat(first|refine blk_drewN ?_ _|refine blk_drew ?_|refine blk_alloc ?_ _));refine blk_put (cs:= #[.int .i64 a1_0,.int .i64 a1_1,.string (⟨#[]⟩:ByteArray),.int .i64 0]) ?_ 2 _ rfl;(with_reducible repeat(first|refine blk_drewN ?_ _|refine blk_drew ?_|refine blk_alloc ?_ _));refine blk_put (cs:= #[.int .i64 a1_0,.int .i64 0,.string (⟨#[]⟩:ByteArray),.int .i64 0]) ?_ 1 _ rfl;(with_reducible repeat(first|refine blk_drewN ?_ _|refine blk_drew ?_|refine blk_alloc ?_ _));refine blk_put (cs:= #[.int .i64 0,.int .i64 0,.string (⟨#[]⟩:ByteArray),.int .i64 0]) ?_ 0 _ rfl;(with_reducible repeat(first|refine blk_drewN ?_ _|refine blk_drew ?_|refine blk_alloc ?_ _));refine blk_far ?_ l.out _;exact sT c.out) Try.underlying62 rfl (by kernel_rfl)) rfl ?_
 exact⟨sq,sb⟩)
 replace i:=zB i
 subst i
 rewrite[if_neg zQ]at H
 simp only[Option.some.injEq,Prod.mk.injEq]at H
 obtain⟨rfl,rfl,rfl,rfl⟩:=H
 go_enter Try.func80,Try.ntmps80
 go_wp2_with (first|((with_reducible refine gate_dst (N:=3) rfl ?_);refine sV (N:=3) (cs:= #[.int .i64 a1_0,.int .i64 a1_1,.string a1_2,.int .i64 a1_3]) (t:=62) ?_;intro p hg au hbox hb;have a:=zM (hbox);have B:=sG HB hg;have q:=sG HB hg;replace HB:=sB HB hb;clear hb hbox hg)|((with_reducible refine gate_dst (N:=4) rfl ?_);refine sV (N:=4) (cs:= #[.int .i64 0,.int .i64 0,.string (⟨#[]⟩:ByteArray),.int .i64 0]) (t:=62) ?_;intro j hg av hbox hb;have c:=zM (hbox);have D:=sG HB hg;have s:=sG HB hg;replace HB:=sB HB hb;have n:=sN a hg;have l:=sM a hg;replace a:=sK a hb;clear hb hbox hg;have aw:=n.out;have ax:=l.out;obtain⟨ay,az,aA,aC,aD,aE,aG,aH⟩:=cells4 a.out)|((with_reducible refine gate_callee (f:=93) rfl ?_);refine sC (some 6) Try.func93 #[.agg #[.int .i64 a1_0,.int .i64 a1_1,.string a1_2,.int .i64 a1_3]] (spec_l07IsRef.calls a1_0 a1_1 a1_2 a1_3 false _ o.out) ?_;rintro e aI ⟨rfl,hb⟩;refine⟨_,rfl,?_⟩;replace a:=sK a hb;replace c:=sK c hb;replace HB:=sB HB hb;(try clear hb);obtain⟨aJ,aK,aM,aN,aQ,aR,aT,aU⟩:=cells4 a.out;obtain⟨aV,aW,aX,aY,aZ,a0,a2,a3⟩:=cells4 c.out))
 refine bodyPost_ret (results_cell_row rfl _ _ j 62 #[.int .i64 a1_0,.int .i64 a1_1,.string a1_2,.int .i64 a1_3] (0,0) _ rfl (by exact sP4 (sT c.out)) Try.underlying62 rfl (by kernel_rfl)) rfl ?_
 exact⟨sq,sb⟩
def spec_l08MoveAll.l0 : Nat → List Int → List (S62) → List (S62) → Int → Option ((List (S62)))
 |0,_,_,_,_=>none
 |k+1,x0,x1,x5,x6=>if x6<(x1.length:Int)then(if 0≤x6 then((spec_l08Move.f k x0 ((rd_T62 x1 x6).f0) ((rd_T62 x1 x6).f1) ((rd_T62 x1 x6).f2) ((rd_T62 x1 x6).f3)).bind fun bt274=>(if x5.length<3518437208883 then(spec_l08MoveAll.l0 k x0 x1 (x5++[(⟨bt274.1,bt274.2.1,bt274.2.2.1,bt274.2.2.2⟩:S62)]) (wrap64 (x6+1)))else(none)))else(none))else(some x5)
def spec_l08MoveAll.f (k:Nat) (l0:List Int) (l1:List (S62)):Option ((List (S62))):=spec_l08MoveAll.l0 k l0 l1 (([]:List (S62))) 0
set_option maxHeartbeats 8000000 in
set_option maxRecDepth 100000 in
theorem spec_l08MoveAll.calls (k:Nat) (A0:Option Addr) (c0:Nat) (l0:List Int) (A1:Option Addr) (c1:Nat) (l1:List (S62)) (r:List (S62)) (w:World) (hr0:Kd.C (Kd.int .i64) w A0 l0.length l0) (hc0:l0.length≤c0) (hr1:Kd.C k62 w A1 l1.length l1) (hc1:l1.length≤c1) (h:spec_l08MoveAll.f k l0 l1=some r):
  Calls Try.prog 79 #[.slice A0 l0.length c0,.slice A1 l1.length c1] w fun e w'=>∃x:Value,e= .returned (x)∧Kd.R k62 62 w' w.heap.size (fun _=>True) x r∧Below w.heap.size w w':=by
 have W:=Try.underlying62
 have G:=zM hr0
 have I:=zM hc0
 clear hr0 hc0
 have J:=zM hr1
 have X:=zM hc1
 clear hr1 hc1
 have HB:=zM (Below.refl w.heap.size w)
 have H:(spec_l08MoveAll.l0 k l0 l1 (([]:List (S62))) 0)=some r:=h
 clear h
 obtain⟨y270,hy270⟩:∃s:List (S62),s=(([]:List (S62))):=⟨_,rfl⟩
 replace H:(spec_l08MoveAll.l0 k l0 l1 y270 0)=some r:=by first|(rw[hy270];with_reducible exact H)|(have d:=(Option.bind_some _ _).symm.trans H;rw[hy270];with_reducible exact d)|(have d:=(Option.bind_some _ _).symm.trans H;with_reducible exact d)|with_reducible exact H|(rw[hy270];exact H)|exact H
 have y:=zM hy270
 clear hy270
 have H':=zM H
 clear H
 go_enter Try.func79,Try.ntmps79
 go_wp2_with (first|((with_reducible refine gate_dst (N:=7) rfl ?_);refine Kd.R_lit k62 _ 62 ?hg (N:=7) ?hd (xs:=([]:List (S62))) (inner:=[]) (ok:=fun _=>True) (okp:=fun _=>True) ?hr ?hp (fun _ hk=>hk) trivial (Below.refl _ _) (Nat.le_refl _) (by simp) ?_;(case hd=>rfl);(case hg=>rfl);(case hr=>first|(go_simp;done)|(go_simp;rfl));(case hp=>exact(Reps.none _ _));intro Y Z n hb K L;clear K L;(first|rw[←y.out]at n|(simp only[Int.reduceToNat]at n;rw[←y.out]at n));have M:=zM (Kd.R_lower n (below_size (sH HB.out)));replace HB:=sB HB hb;clear hb n))
 go_loopg [5,6] k (fun kq O P w'=>∃(c:List (S62)) (a:Int),P= .int .i64 a∧Aside0 (spec_l08MoveAll.l0 kq l0 l1 c a=some r)∧Aside0 (kq≤k)∧Aside0 (Kd.R k62 62 w' w.heap.size (fun _=>True) O c)∧Aside0 (Below w.heap.size w w'))
 case atStart=>exact⟨(y270),(0),sr,H',⟨Nat.le_refl _⟩,⟨by exact sE M.out⟩,⟨sb⟩⟩
 case round=>(
 clear H'
 try clear c1
 obtain⟨c,a,rfl,HA,z,o,HB⟩:=hrel
 cases gk with
 |zero=>exact absurd HA.out (by simp[spec_l08MoveAll.l0])
 |succ k1=>(
 have H:=HA.out
 clear HA
 simp only[spec_l08MoveAll.l0]at H
 by_cases g:a<(l1.length:Int)
 ·(
 rw[if_pos g]at H
 have c5b0:=zT g
 clear g
 by_cases p:0≤a
 ·(
 rw[if_pos p]at H
 have c6b0:=zT p
 clear p
 replace H:=Option.bind_eq_some_iff.mp H
 obtain⟨⟨i,j,l,m⟩,A,H⟩:=H
 replace H:(if c.length<3518437208883 then(spec_l08MoveAll.l0 k1 l0 l1 (c++[(⟨i,j,l,m⟩:S62)]) (wrap64 (a+1)))else(none))=some r:=H
 have Q:=zM A
 clear A
 by_cases q:c.length<3518437208883
 ·(
 rw[if_pos q]at H
 have S:=zM q
 clear q
 obtain⟨y278,hy278⟩:∃s:List (S62),s=(c++[(⟨i,j,l,m⟩:S62)]):=⟨_,rfl⟩
 replace H:(spec_l08MoveAll.l0 k1 l0 l1 y278 (wrap64 (a+1)))=some r:=by first|(rw[hy278];with_reducible exact H)|(have d:=(Option.bind_some _ _).symm.trans H;rw[hy278];with_reducible exact d)|(have d:=(Option.bind_some _ _).symm.trans H;with_reducible exact d)|with_reducible exact H|(rw[hy278];exact H)|exact H
 have T:=zM hy278
 clear hy278
 have H':=zM H
 clear H
 have u:0≤(a:Int):=zzA
 have v:a<(l1.length:Int):=zzA
 obtain⟨aa,U,B,D,E,F⟩:=at_T62 J.out a u v
 cases U
 replace B:=sX HB B
 replace D:=sX HB D
 replace E:=sX HB E
 replace F:=sX HB F
 replace u:=eq_true u
 replace v:=eq_true v
 go_wp2_with (first|((with_reducible refine gate_callee (f:=80) rfl ?_);refine sC (some 20) Try.func80 #[.slice A0 l0.length c0,.agg #[.int .i64 ((rd_T62 l1 a).f0),.int .i64 ((rd_T62 l1 a).f1),.string ((rd_T62 l1 a).f2),.int .i64 ((rd_T62 l1 a).f3)]] (spec_l08Move.calls k1 _ _ l0 ((rd_T62 l1 a).f0) ((rd_T62 l1 a).f1) ((rd_T62 l1 a).f2) ((rd_T62 l1 a).f3) i j l m _ ?side1 ?side2 Q.out) ?_;(case side1=>exact sD (zC G.out HB.out));(case side2=>exact I.out);rintro e w9 ⟨rfl,hb⟩;refine⟨_,rfl,?_⟩;replace o:=zM (Kd.R_below (sE o.out) hb);replace HB:=sB HB hb;(try clear hb))|((with_reducible refine gate_builtin (b:= .append) (xs:= #[.tmp 14,.tmp 21]) rfl ?_);at_builtin;refine Kd.R_append k62 (w0:=w) w.heap.size rfl (.tmp 14) (.tmp 21) 34 62 (.agg #[(.int .i64 0),(.int .i64 0),(.string ⟨#[]⟩),(.int .i64 0)]) 40 rfl Try.underlying34 info62 rfl (by decide) (by omega) u5 c (⟨i,j,l,m⟩:S62) [.int .i64 i,.int .i64 j,.string l,.int .i64 m] (fun _=>True) (fun _=>False) rfl rfl ?aP (fun _ hk=>hk.elim) ?aF ?aO ?aB ?aS ?aL ?_;(case aP=>exact k62_mkM _ _ _ (⟨i,j,l,m⟩:S62));(case aB=>exact(sH HB.out));(case aF=>exact(fun _ _=>trivial));(case aO=>exact(sE o.out));(case aS=>exact(below_size (sH HB.out)));(case aL=>have:=S.out;omega);intro ab ac ho hb hg hat;rw[←T.out]at ho;replace HB:=zM (hb);have V:=zM (ho);clear o;clear ho hb hg hat))
 go_roundg k1
 case measure=>have:=z.out;omega
 case rel=>exact⟨(y278),(wrap64 (a+1)),sr,H',⟨by have:=z.out;omega⟩,⟨by exact sE V.out⟩,⟨sb⟩⟩)
 rw[if_neg q]at H
 exact absurd H (by simp))
 rw[if_neg p]at H
 exact absurd H (by simp))
 rw[if_neg g]at H
 have c5b0:=zF g
 clear g
 obtain rfl:=zI H
 go_wp2
 go_ret
 exact⟨_,sq,by exact sE o.out,sb⟩))
end Go.Proofs.Ytpdljgieaaicpaa.PFnExactLiveSize
