/- Printed functions: laws_szConsole. -/
import Derived.Test.YtnneadpahjkhgaaYSmP0
import Derived.Test.YtnneadpahjkhgaaYSmP2
namespace Go.Proofs.Ytnneadpahjkhgaa.PFnExactSameMemory
open Go.RowKit Go.Proofs.YtnneadpahjkhgaaG Go.Proofs.YtnneadpahjkhgaaW.PrintWords Go.Proofs.YtnneadpahjkhgaaW.PrintLast Go.Proofs.YtnneadpahjkhgaaW.PrintMore
attribute [local go_sem] max2_int min2_int max_two min_two max_three min_three max_four min_four
set_option linter.unusedVariables false
set_option linter.unusedSimpArgs false
def laws_szConsole.f (k:Nat) (l0_0:List ByteArray) (a0_1:Int) (l0_2:List ByteArray) (l0_3:List (S127)) (l0_4:List ByteArray) (a1:Int):Option (Int):=(laws_szStringS.f k l0_0 a1).bind fun t135=>(if t135<0 then(some (-1))else((laws_szStringS.f k l0_2 t135).bind fun t136=>(if t136<0 then(some (-1))else((laws_szFileS.f k l0_3 t136).bind fun t137=>(if t137<0 then(some (-1))else((laws_szStringS.f k l0_4 t137).bind fun t138=>(if t138<0 then(some (-1))else(some t138))))))))
set_option maxHeartbeats 8000000 in
set_option maxRecDepth 100000 in
theorem laws_szConsole.calls (k:Nat) (A0_0:Option Addr) (c0_0:Nat) (l0_0:List ByteArray) (a0_1:Int) (A0_2:Option Addr) (c0_2:Nat) (l0_2:List ByteArray) (A0_3:Option Addr) (c0_3:Nat) (l0_3:List (S127)) (A0_4:Option Addr) (c0_4:Nat) (l0_4:List ByteArray) (a1:Int) (r:Int) (w:World) (hr0_0:Kd.C Kd.string w A0_0 l0_0.length l0_0) (hc0_0:l0_0.length≤c0_0) (hr0_2:Kd.C Kd.string w A0_2 l0_2.length l0_2) (hc0_2:l0_2.length≤c0_2) (hr0_3:Kd.C k127 w A0_3 l0_3.length l0_3) (hc0_3:l0_3.length≤c0_3) (hr0_4:Kd.C Kd.string w A0_4 l0_4.length l0_4) (hc0_4:l0_4.length≤c0_4) (h:laws_szConsole.f k l0_0 a0_1 l0_2 l0_3 l0_4 a1=some r):
  Calls Try.prog 13 #[.agg #[.slice A0_0 l0_0.length c0_0,.int .i64 a0_1,.slice A0_2 l0_2.length c0_2,.slice A0_3 l0_3.length c0_3,.slice A0_4 l0_4.length c0_4],.int .i64 a1] w fun e w'=>e= .returned (.int .i64 r)∧Below w.heap.size w w':=by
 have G:=Try.underlying36
 have o:=zM hr0_0
 have p:=zM hc0_0
 clear hr0_0 hc0_0
 have s:=zM hr0_2
 have u:=zM hc0_2
 clear hr0_2 hc0_2
 have z:=zM hr0_3
 have A:=zM hc0_3
 clear hr0_3 hc0_3
 have D:=zM hr0_4
 have E:=zM hc0_4
 clear hr0_4 hc0_4
 have HB:=zM (Below.refl w.heap.size w)
 have H:((laws_szStringS.f k l0_0 a1).bind fun a=>(if a<0 then(some (-1))else((laws_szStringS.f k l0_2 a).bind fun c=>(if c<0 then(some (-1))else((laws_szFileS.f k l0_3 c).bind fun d=>(if d<0 then(some (-1))else((laws_szStringS.f k l0_4 d).bind fun i=>(if i<0 then(some (-1))else(some i)))))))))=some r:=h
 clear h
 obtain⟨a,q,H⟩:=sO H
 by_cases j:a<0
 ·(
 rw[if_pos j]at H
 have c4b0:=zT j
 clear j
 obtain rfl:=zI H
 go_enter Try.func13,Try.ntmps13
 go_wp2_with (first|((with_reducible refine gate_dst (N:=2) rfl ?_);refine sV (N:=2) (cs:= #[.slice A0_0 l0_0.length c0_0,.int .i64 a0_1,.slice A0_2 l0_2.length c0_2,.slice A0_3 l0_3.length c0_3,.slice A0_4 l0_4.length c0_4]) (t:=36) ?_;intro v hg I hbox hb;have b:=zM (hbox);have x:=sG HB hg;have g:=sG HB hg;replace HB:=sB HB hb;clear hb hbox hg;obtain⟨J,K,L,M,O,P,Q,R,S,T⟩:=cells5 b.out)|((with_reducible refine gate_callee (f:=39) rfl ?_);refine sC (some 8) Try.func39 #[.slice A0_0 l0_0.length c0_0,.int .i64 a1] (laws_szStringS.calls k _ _ l0_0 a1 a _ ?side1 ?side2 q.out) ?_;(case side1=>exact sD (zC o.out HB.out));(case side2=>exact p.out);rintro e w' ⟨rfl,⟨nd,rfl⟩⟩;refine⟨_,rfl,?_⟩))
 go_ret
 exact⟨sq,sb⟩)
 rw[if_neg j]at H
 have c4b0:=zF j
 clear j
 obtain⟨c,y,H⟩:=sO H
 by_cases l:c<0
 ·(
 rw[if_pos l]at H
 have c8b0:=zT l
 clear l
 obtain rfl:=zI H
 go_enter Try.func13,Try.ntmps13
 go_wp2_with (first|((with_reducible refine gate_dst (N:=2) rfl ?_);refine sV (N:=2) (cs:= #[.slice A0_0 l0_0.length c0_0,.int .i64 a0_1,.slice A0_2 l0_2.length c0_2,.slice A0_3 l0_3.length c0_3,.slice A0_4 l0_4.length c0_4]) (t:=36) ?_;intro v hg U hbox hb;have b:=zM (hbox);have x:=sG HB hg;have g:=sG HB hg;replace HB:=sB HB hb;clear hb hbox hg;obtain⟨V,W,X,Y,Z,aa,ab,ac,ad,ae⟩:=cells5 b.out)|((with_reducible refine gate_callee (f:=39) rfl ?_);refine sC (some 8) Try.func39 #[.slice A0_0 l0_0.length c0_0,.int .i64 a1] (laws_szStringS.calls k _ _ l0_0 a1 a _ ?side1 ?side2 q.out) ?_;(case side1=>exact sD (zC o.out HB.out));(case side2=>exact p.out);rintro e w' ⟨rfl,⟨nd,rfl⟩⟩;refine⟨_,rfl,?_⟩)|((with_reducible refine gate_callee (f:=39) rfl ?_);refine sC (some 14) Try.func39 #[.slice A0_2 l0_2.length c0_2,.int .i64 a] (laws_szStringS.calls k _ _ l0_2 a c _ ?side1 ?side2 y.out) ?_;(case side1=>exact sD (zC s.out (by repeat(first|(with_reducible first|exact HB.out|apply below_alloc|apply pw_below_drewN|apply below_drew1|refine below_set ?_ g.out)|exact HB.out))));(case side2=>exact u.out);rintro e w' ⟨rfl,⟨nd,rfl⟩⟩;refine⟨_,rfl,?_⟩))
 go_ret
 exact⟨sq,sb⟩)
 rw[if_neg l]at H
 have c8b0:=zF l
 clear l
 obtain⟨d,B,H⟩:=sO H
 by_cases m:d<0
 ·(
 rw[if_pos m]at H
 have c12b0:=zT m
 clear m
 obtain rfl:=zI H
 go_enter Try.func13,Try.ntmps13
 go_wp2_with (first|((with_reducible refine gate_dst (N:=2) rfl ?_);refine sV (N:=2) (cs:= #[.slice A0_0 l0_0.length c0_0,.int .i64 a0_1,.slice A0_2 l0_2.length c0_2,.slice A0_3 l0_3.length c0_3,.slice A0_4 l0_4.length c0_4]) (t:=36) ?_;intro v hg af hbox hb;have b:=zM (hbox);have x:=sG HB hg;have g:=sG HB hg;replace HB:=sB HB hb;clear hb hbox hg;obtain⟨ag,ah,ai,aj,ak,al,am,an,ao,ap⟩:=cells5 b.out)|((with_reducible refine gate_callee (f:=39) rfl ?_);refine sC (some 8) Try.func39 #[.slice A0_0 l0_0.length c0_0,.int .i64 a1] (laws_szStringS.calls k _ _ l0_0 a1 a _ ?side1 ?side2 q.out) ?_;(case side1=>exact sD (zC o.out HB.out));(case side2=>exact p.out);rintro e w' ⟨rfl,⟨nd,rfl⟩⟩;refine⟨_,rfl,?_⟩)|((with_reducible refine gate_callee (f:=39) rfl ?_);refine sC (some 14) Try.func39 #[.slice A0_2 l0_2.length c0_2,.int .i64 a] (laws_szStringS.calls k _ _ l0_2 a c _ ?side1 ?side2 y.out) ?_;(case side1=>exact sD (zC s.out (by repeat(first|(with_reducible first|exact HB.out|apply below_alloc|apply pw_below_drewN|apply below_drew1|refine below_set ?_ g.out)|exact HB.out))));(case side2=>exact u.out);rintro e w' ⟨rfl,⟨nd,rfl⟩⟩;refine⟨_,rfl,?_⟩)|((with_reducible refine gate_callee (f:=40) rfl ?_);refine sC (some 20) Try.func40 #[.slice A0_3 l0_3.length c0_3,.int .i64 c] (laws_szFileS.calls k _ _ l0_3 c d _ ?side1 ?side2 B.out) ?_;(case side1=>exact sD (zC z.out (by repeat(first|(with_reducible first|exact HB.out|apply below_alloc|apply pw_below_drewN|apply below_drew1|refine below_set ?_ g.out)|exact HB.out))));(case side2=>exact A.out);rintro e aq ⟨rfl,hb⟩;refine⟨_,rfl,?_⟩;replace b:=sK b hb;replace HB:=sB HB hb;(try clear hb)))
 go_ret
 exact⟨sq,sb⟩)
 rw[if_neg m]at H
 have c12b0:=zF m
 clear m
 obtain⟨i,F,H⟩:=sO H
 by_cases n:i<0
 ·(
 rw[if_pos n]at H
 have c17b0:=zT n
 clear n
 obtain rfl:=zI H
 go_enter Try.func13,Try.ntmps13
 go_wp2_with (first|((with_reducible refine gate_dst (N:=2) rfl ?_);refine sV (N:=2) (cs:= #[.slice A0_0 l0_0.length c0_0,.int .i64 a0_1,.slice A0_2 l0_2.length c0_2,.slice A0_3 l0_3.length c0_3,.slice A0_4 l0_4.length c0_4]) (t:=36) ?_;intro v hg ar hbox hb;have b:=zM (hbox);have x:=sG HB hg;have g:=sG HB hg;replace HB:=sB HB hb;clear hb hbox hg;obtain⟨au,av,aw,ax,ay,az,aA,aB,aC,aD⟩:=cells5 b.out)|((with_reducible refine gate_callee (f:=39) rfl ?_);refine sC (some 8) Try.func39 #[.slice A0_0 l0_0.length c0_0,.int .i64 a1] (laws_szStringS.calls k _ _ l0_0 a1 a _ ?side1 ?side2 q.out) ?_;(case side1=>exact sD (zC o.out HB.out));(case side2=>exact p.out);rintro e w' ⟨rfl,⟨nd,rfl⟩⟩;refine⟨_,rfl,?_⟩)|((with_reducible refine gate_callee (f:=39) rfl ?_);refine sC (some 14) Try.func39 #[.slice A0_2 l0_2.length c0_2,.int .i64 a] (laws_szStringS.calls k _ _ l0_2 a c _ ?side1 ?side2 y.out) ?_;(case side1=>exact sD (zC s.out (by repeat(first|(with_reducible first|exact HB.out|apply below_alloc|apply pw_below_drewN|apply below_drew1|refine below_set ?_ g.out)|exact HB.out))));(case side2=>exact u.out);rintro e w' ⟨rfl,⟨nd,rfl⟩⟩;refine⟨_,rfl,?_⟩)|((with_reducible refine gate_callee (f:=40) rfl ?_);refine sC (some 20) Try.func40 #[.slice A0_3 l0_3.length c0_3,.int .i64 c] (laws_szFileS.calls k _ _ l0_3 c d _ ?side1 ?side2 B.out) ?_;(case side1=>exact sD (zC z.out (by repeat(first|(with_reducible first|exact HB.out|apply below_alloc|apply pw_below_drewN|apply below_drew1|refine below_set ?_ g.out)|exact HB.out))));(case side2=>exact A.out);rintro e aE ⟨rfl,hb⟩;refine⟨_,rfl,?_⟩;replace b:=sK b hb;replace HB:=sB HB hb;(try clear hb);obtain⟨aF,aG,aH,aI,aJ,aK,aL,aM,aN,aO⟩:=cells5 b.out)|((with_reducible refine gate_callee (f:=39) rfl ?_);refine sC (some 26) Try.func39 #[.slice A0_4 l0_4.length c0_4,.int .i64 d] (laws_szStringS.calls k _ _ l0_4 d i _ ?side1 ?side2 F.out) ?_;(case side1=>exact sD (zC D.out HB.out));(case side2=>exact E.out);rintro e w' ⟨rfl,⟨nd,rfl⟩⟩;refine⟨_,rfl,?_⟩))
 go_ret
 exact⟨sq,sb⟩)
 rw[if_neg n]at H
 have c17b0:=zF n
 clear n
 obtain rfl:=zI H
 go_enter Try.func13,Try.ntmps13
 go_wp2_with (first|((with_reducible refine gate_dst (N:=2) rfl ?_);refine sV (N:=2) (cs:= #[.slice A0_0 l0_0.length c0_0,.int .i64 a0_1,.slice A0_2 l0_2.length c0_2,.slice A0_3 l0_3.length c0_3,.slice A0_4 l0_4.length c0_4]) (t:=36) ?_;intro v hg aP hbox hb;have b:=zM (hbox);have x:=sG HB hg;have g:=sG HB hg;replace HB:=sB HB hb;clear hb hbox hg;obtain⟨aQ,aR,aS,aT,aU,aV,aW,aX,aY,aZ⟩:=cells5 b.out)|((with_reducible refine gate_callee (f:=39) rfl ?_);refine sC (some 8) Try.func39 #[.slice A0_0 l0_0.length c0_0,.int .i64 a1] (laws_szStringS.calls k _ _ l0_0 a1 a _ ?side1 ?side2 q.out) ?_;(case side1=>exact sD (zC o.out HB.out));(case side2=>exact p.out);rintro e w' ⟨rfl,⟨nd,rfl⟩⟩;refine⟨_,rfl,?_⟩)|((with_reducible refine gate_callee (f:=39) rfl ?_);refine sC (some 14) Try.func39 #[.slice A0_2 l0_2.length c0_2,.int .i64 a] (laws_szStringS.calls k _ _ l0_2 a c _ ?side1 ?side2 y.out) ?_;(case side1=>exact sD (zC s.out (by repeat(first|(with_reducible first|exact HB.out|apply below_alloc|apply pw_below_drewN|apply below_drew1|refine below_set ?_ g.out)|exact HB.out))));(case side2=>exact u.out);rintro e w' ⟨rfl,⟨nd,rfl⟩⟩;refine⟨_,rfl,?_⟩)|((with_reducible refine gate_callee (f:=40) rfl ?_);refine sC (some 20) Try.func40 #[.slice A0_3 l0_3.length c0_3,.int .i64 c] (laws_szFileS.calls k _ _ l0_3 c d _ ?side1 ?side2 B.out) ?_;(case side1=>exact sD (zC z.out (by repeat(first|(with_reducible first|exact HB.out|apply below_alloc|apply pw_below_drewN|apply below_drew1|refine below_set ?_ g.out)|exact HB.out))));(case side2=>exact A.out);rintro e a0 ⟨rfl,hb⟩;refine⟨_,rfl,?_⟩;replace b:=sK b hb;replace HB:=sB HB hb;(try clear hb);obtain⟨a2,a3,a4,a5,a6,a7,a8,a9,ba,bb⟩:=cells5 b.out)|((with_reducible refine gate_callee (f:=39) rfl ?_);refine sC (some 26) Try.func39 #[.slice A0_4 l0_4.length c0_4,.int .i64 d] (laws_szStringS.calls k _ _ l0_4 d i _ ?side1 ?side2 F.out) ?_;(case side1=>exact sD (zC D.out HB.out));(case side2=>exact E.out);rintro e w' ⟨rfl,⟨nd,rfl⟩⟩;refine⟨_,rfl,?_⟩))
 go_ret
 exact⟨sq,sb⟩
end Go.Proofs.Ytnneadpahjkhgaa.PFnExactSameMemory
