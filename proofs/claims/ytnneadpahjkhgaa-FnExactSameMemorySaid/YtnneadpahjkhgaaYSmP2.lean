/- Printed functions: laws_szStringS, laws_szFunction, laws_szFunctionS, laws_szRecordType, laws_szRecordTypeS, laws_szFile, laws_szFileS. -/
import Derived.Test.YtnneadpahjkhgaaYSmP0
namespace Go.Proofs.Ytnneadpahjkhgaa.PFnExactSameMemory
open Go.RowKit Go.Proofs.YtnneadpahjkhgaaG Go.Proofs.YtnneadpahjkhgaaW.PrintWords Go.Proofs.YtnneadpahjkhgaaW.PrintLast Go.Proofs.YtnneadpahjkhgaaW.PrintMore
attribute [local go_sem] max2_int min2_int max_two min_two max_three min_three max_four min_four
set_option linter.unusedVariables false
set_option linter.unusedSimpArgs false
def laws_szStringS.l0 : Nat → List ByteArray → Int → Int → Option (Int)
 |0,_,_,_=>none
 |k+1,x0,x1,x5=>if x5<(x0.length:Int)then(if 0≤x5 then(if(wrap64 (x1-((rdOf ByteArray.empty x0 x5).size:Int)))<0 then(some (-1))else(laws_szStringS.l0 k x0 (wrap64 (x1-((rdOf ByteArray.empty x0 x5).size:Int))) (wrap64 (x5+1))))else(none))else(some x1)
def laws_szStringS.f (k:Nat) (l0:List ByteArray) (a1:Int):Option (Int):=if(wrap64 (a1-(l0.length:Int)))<0 then(some (-1))else(laws_szStringS.l0 k l0 (wrap64 (a1-(l0.length:Int))) 0)
set_option maxHeartbeats 8000000 in
set_option maxRecDepth 100000 in
theorem laws_szStringS.calls (k:Nat) (A0:Option Addr) (c0:Nat) (l0:List ByteArray) (a1:Int) (r:Int) (w:World) (hr0:Kd.C Kd.string w A0 l0.length l0) (hc0:l0.length≤c0) (h:laws_szStringS.f k l0 a1=some r):
  Calls Try.prog 39 #[.slice A0 l0.length c0,.int .i64 a1] w fun e w'=>e= .returned (.int .i64 r)∧Drawn0 w w':=by
 have n:=zM hr0
 have v:=zM hc0
 clear hr0 hc0
 have H:(if(wrap64 (a1-(l0.length:Int)))<0 then(some (-1))else(laws_szStringS.l0 k l0 (wrap64 (a1-(l0.length:Int))) 0))=some r:=h
 clear h
 by_cases b:(wrap64 (a1-(l0.length:Int)))<0
 ·(
 rw[if_pos b]at H
 have c3b0:=zT b
 clear b
 obtain rfl:=zI H
 go_enter Try.func39,Try.ntmps39
 go_wp2
 go_ret
 exact⟨by first|rfl|(simp;done)|(simp[*];done),by repeat(first|exact Drawn0.refl _|apply Drawn0.step)⟩)
 rw[if_neg b]at H
 have c3b0:=zF b
 clear b
 have H':=zM H
 clear H
 go_enter Try.func39,Try.ntmps39
 go_wp2
 go_loopg [1,5] k (fun kq p q w'=>∃(j:Int) (a:Int),p= .int .i64 j∧q= .int .i64 a∧Aside0 (laws_szStringS.l0 kq l0 j a=some r)∧Aside0 (kq≤k)∧Drawn0 w w')
 case atStart=>exact⟨(wrap64 (a1-(l0.length:Int))),(0),sr,sr,H',⟨Nat.le_refl _⟩,by repeat(first|exact Drawn0.refl _|apply Drawn0.step)⟩
 case round=>(
 clear H'
 try clear b
 try clear c3b0
 obtain⟨j,a,rfl,rfl,HA,o,⟨x,rfl⟩⟩:=hrel
 cases gk with
 |zero=>exact absurd HA.out (by simp[laws_szStringS.l0])
 |succ k1=>(
 have H:=HA.out
 clear HA
 simp only[laws_szStringS.l0]at H
 by_cases g:a<(l0.length:Int)
 ·(
 rw[if_pos g]at H
 have c4b0:=zT g
 clear g
 by_cases l:0≤a
 ·(
 rw[if_pos l]at H
 have c5b0:=zT l
 clear l
 by_cases i:(wrap64 (j-((rdOf ByteArray.empty l0 a).size:Int)))<0
 ·(
 rw[if_pos i]at H
 have c6b0:=zT i
 clear i
 obtain rfl:=zI H
 have c:0≤(a:Int):=zO (by first|(with_reducible assumption)|assumption)
 have d:a<(l0.length:Int):=zO (by first|(with_reducible assumption)|assumption)
 obtain⟨s,m,u⟩:=Kd.at_string n.out a c d
 cases m
 replace c:=eq_true c
 replace d:=eq_true d
 go_wp2
 go_ret
 exact⟨by first|rfl|(simp;done)|(simp[*];done),by repeat(first|exact Drawn0.refl _|apply Drawn0.step)⟩)
 rw[if_neg i]at H
 have c6b0:=zF i
 clear i
 have H':=zM H
 clear H
 have c:0≤(a:Int):=zO (by first|(with_reducible assumption)|assumption)
 have d:a<(l0.length:Int):=zO (by first|(with_reducible assumption)|assumption)
 obtain⟨s,m,u⟩:=Kd.at_string n.out a c d
 cases m
 replace c:=eq_true c
 replace d:=eq_true d
 go_wp2
 go_roundg k1
 case measure=>have:=o.out;omega
 case rel=>exact⟨(wrap64 (j-((rdOf ByteArray.empty l0 a).size:Int))),(wrap64 (a+1)),sr,sr,H',⟨by have:=o.out;omega⟩,by repeat(first|exact Drawn0.refl _|apply Drawn0.step)⟩)
 rw[if_neg l]at H
 exact absurd H (by simp))
 rw[if_neg g]at H
 have c4b0:=zF g
 clear g
 obtain rfl:=zI H
 go_wp2
 go_ret
 exact⟨by first|rfl|(simp;done)|(simp[*];done),by repeat(first|exact Drawn0.refl _|apply Drawn0.step)⟩))
def laws_szFunction.f (k:Nat) (a0_0:ByteArray) (l0_1:List ByteArray) (l0_2:List ByteArray) (a0_3:ByteArray) (a1:Int):Option (Int):=if(wrap64 (a1-(a0_0.size:Int)))<0 then(some (-1))else((laws_szStringS.f k l0_1 (wrap64 (a1-(a0_0.size:Int)))).bind fun t118=>(if t118<0 then(some (-1))else((laws_szStringS.f k l0_2 t118).bind fun t119=>(if t119<0 then(some (-1))else(if(wrap64 (t119-(a0_3.size:Int)))<0 then(some (-1))else(some (wrap64 (t119-(a0_3.size:Int)))))))))
set_option maxHeartbeats 8000000 in
set_option maxRecDepth 100000 in
theorem laws_szFunction.calls (k:Nat) (a0_0:ByteArray) (A0_1:Option Addr) (c0_1:Nat) (l0_1:List ByteArray) (A0_2:Option Addr) (c0_2:Nat) (l0_2:List ByteArray) (a0_3:ByteArray) (a1:Int) (r:Int) (w:World) (hr0_1:Kd.C Kd.string w A0_1 l0_1.length l0_1) (hc0_1:l0_1.length≤c0_1) (hr0_2:Kd.C Kd.string w A0_2 l0_2.length l0_2) (hc0_2:l0_2.length≤c0_2) (h:laws_szFunction.f k a0_0 l0_1 l0_2 a0_3 a1=some r):
  Calls Try.prog 89 #[.agg #[.string a0_0,.slice A0_1 l0_1.length c0_1,.slice A0_2 l0_2.length c0_2,.string a0_3],.int .i64 a1] w fun e w'=>e= .returned (.int .i64 r)∧Below w.heap.size w w':=by
 have x:=Try.underlying136
 have m:=zM hr0_1
 have n:=zM hc0_1
 clear hr0_1 hc0_1
 have s:=zM hr0_2
 have u:=zM hc0_2
 clear hr0_2 hc0_2
 have HB:=zM (Below.refl w.heap.size w)
 have H:(if(wrap64 (a1-(a0_0.size:Int)))<0 then(some (-1))else((laws_szStringS.f k l0_1 (wrap64 (a1-(a0_0.size:Int)))).bind fun a=>(if a<0 then(some (-1))else((laws_szStringS.f k l0_2 a).bind fun b=>(if b<0 then(some (-1))else(if(wrap64 (b-(a0_3.size:Int)))<0 then(some (-1))else(some (wrap64 (b-(a0_3.size:Int))))))))))=some r:=h
 clear h
 by_cases g:(wrap64 (a1-(a0_0.size:Int)))<0
 ·(
 rw[if_pos g]at H
 have c3b0:=zT g
 clear g
 obtain rfl:=zI H
 go_enter Try.func89,Try.ntmps89
 go_wp2_with (first|((with_reducible refine gate_dst (N:=2) rfl ?_);refine sV (N:=2) (cs:= #[.string a0_0,.slice A0_1 l0_1.length c0_1,.slice A0_2 l0_2.length c0_2,.string a0_3]) (t:=136) ?_;intro o hg y hbox hb;have c:=zM (hbox);have p:=sG HB hg;have d:=sG HB hg;replace HB:=sB HB hb;clear hb hbox hg;obtain⟨z,A,B,D,E,F,G,I⟩:=cells4 c.out))
 go_ret
 exact⟨sq,sb⟩)
 rw[if_neg g]at H
 have c3b0:=zF g
 clear g
 obtain⟨a,q,H⟩:=sO H
 by_cases i:a<0
 ·(
 rw[if_pos i]at H
 have c7b0:=zT i
 clear i
 obtain rfl:=zI H
 go_enter Try.func89,Try.ntmps89
 go_wp2_with (first|((with_reducible refine gate_dst (N:=2) rfl ?_);refine sV (N:=2) (cs:= #[.string a0_0,.slice A0_1 l0_1.length c0_1,.slice A0_2 l0_2.length c0_2,.string a0_3]) (t:=136) ?_;intro o hg J hbox hb;have c:=zM (hbox);have p:=sG HB hg;have d:=sG HB hg;replace HB:=sB HB hb;clear hb hbox hg;obtain⟨K,L,M,O,P,Q,R,S⟩:=cells4 c.out)|((with_reducible refine gate_callee (f:=39) rfl ?_);refine sC (some 15) Try.func39 #[.slice A0_1 l0_1.length c0_1,.int .i64 (wrap64 (a1-(a0_0.size:Int)))] (laws_szStringS.calls k _ _ l0_1 (wrap64 (a1-(a0_0.size:Int))) a _ ?side1 ?side2 q.out) ?_;(case side1=>exact sD (zC m.out HB.out));(case side2=>exact n.out);rintro e w' ⟨rfl,⟨nd,rfl⟩⟩;refine⟨_,rfl,?_⟩))
 go_ret
 exact⟨sq,sb⟩)
 rw[if_neg i]at H
 have c7b0:=zF i
 clear i
 obtain⟨b,v,H⟩:=sO H
 by_cases j:b<0
 ·(
 rw[if_pos j]at H
 have c11b0:=zT j
 clear j
 obtain rfl:=zI H
 go_enter Try.func89,Try.ntmps89
 go_wp2_with (first|((with_reducible refine gate_dst (N:=2) rfl ?_);refine sV (N:=2) (cs:= #[.string a0_0,.slice A0_1 l0_1.length c0_1,.slice A0_2 l0_2.length c0_2,.string a0_3]) (t:=136) ?_;intro o hg T hbox hb;have c:=zM (hbox);have p:=sG HB hg;have d:=sG HB hg;replace HB:=sB HB hb;clear hb hbox hg;obtain⟨U,V,W,X,Y,Z,aa,ab⟩:=cells4 c.out)|((with_reducible refine gate_callee (f:=39) rfl ?_);refine sC (some 15) Try.func39 #[.slice A0_1 l0_1.length c0_1,.int .i64 (wrap64 (a1-(a0_0.size:Int)))] (laws_szStringS.calls k _ _ l0_1 (wrap64 (a1-(a0_0.size:Int))) a _ ?side1 ?side2 q.out) ?_;(case side1=>exact sD (zC m.out HB.out));(case side2=>exact n.out);rintro e w' ⟨rfl,⟨nd,rfl⟩⟩;refine⟨_,rfl,?_⟩)|((with_reducible refine gate_callee (f:=39) rfl ?_);refine sC (some 21) Try.func39 #[.slice A0_2 l0_2.length c0_2,.int .i64 a] (laws_szStringS.calls k _ _ l0_2 a b _ ?side1 ?side2 v.out) ?_;(case side1=>exact sD (zC s.out (by repeat(first|(with_reducible first|exact HB.out|apply below_alloc|apply pw_below_drewN|apply below_drew1|refine below_set ?_ d.out)|exact HB.out))));(case side2=>exact u.out);rintro e w' ⟨rfl,⟨nd,rfl⟩⟩;refine⟨_,rfl,?_⟩))
 go_ret
 exact⟨sq,sb⟩)
 rw[if_neg j]at H
 have c11b0:=zF j
 clear j
 by_cases l:(wrap64 (b-(a0_3.size:Int)))<0
 ·(
 rw[if_pos l]at H
 have c14b0:=zT l
 clear l
 obtain rfl:=zI H
 go_enter Try.func89,Try.ntmps89
 go_wp2_with (first|((with_reducible refine gate_dst (N:=2) rfl ?_);refine sV (N:=2) (cs:= #[.string a0_0,.slice A0_1 l0_1.length c0_1,.slice A0_2 l0_2.length c0_2,.string a0_3]) (t:=136) ?_;intro o hg ac hbox hb;have c:=zM (hbox);have p:=sG HB hg;have d:=sG HB hg;replace HB:=sB HB hb;clear hb hbox hg;obtain⟨ad,ae,af,ag,ah,ai,aj,ak⟩:=cells4 c.out)|((with_reducible refine gate_callee (f:=39) rfl ?_);refine sC (some 15) Try.func39 #[.slice A0_1 l0_1.length c0_1,.int .i64 (wrap64 (a1-(a0_0.size:Int)))] (laws_szStringS.calls k _ _ l0_1 (wrap64 (a1-(a0_0.size:Int))) a _ ?side1 ?side2 q.out) ?_;(case side1=>exact sD (zC m.out HB.out));(case side2=>exact n.out);rintro e w' ⟨rfl,⟨nd,rfl⟩⟩;refine⟨_,rfl,?_⟩)|((with_reducible refine gate_callee (f:=39) rfl ?_);refine sC (some 21) Try.func39 #[.slice A0_2 l0_2.length c0_2,.int .i64 a] (laws_szStringS.calls k _ _ l0_2 a b _ ?side1 ?side2 v.out) ?_;(case side1=>exact sD (zC s.out (by repeat(first|(with_reducible first|exact HB.out|apply below_alloc|apply pw_below_drewN|apply below_drew1|refine below_set ?_ d.out)|exact HB.out))));(case side2=>exact u.out);rintro e w' ⟨rfl,⟨nd,rfl⟩⟩;refine⟨_,rfl,?_⟩))
 go_ret
 exact⟨sq,sb⟩)
 rw[if_neg l]at H
 have c14b0:=zF l
 clear l
 obtain rfl:=zI H
 go_enter Try.func89,Try.ntmps89
 go_wp2_with (first|((with_reducible refine gate_dst (N:=2) rfl ?_);refine sV (N:=2) (cs:= #[.string a0_0,.slice A0_1 l0_1.length c0_1,.slice A0_2 l0_2.length c0_2,.string a0_3]) (t:=136) ?_;intro o hg al hbox hb;have c:=zM (hbox);have p:=sG HB hg;have d:=sG HB hg;replace HB:=sB HB hb;clear hb hbox hg;obtain⟨am,an,ao,ap,aq,ar,au,av⟩:=cells4 c.out)|((with_reducible refine gate_callee (f:=39) rfl ?_);refine sC (some 15) Try.func39 #[.slice A0_1 l0_1.length c0_1,.int .i64 (wrap64 (a1-(a0_0.size:Int)))] (laws_szStringS.calls k _ _ l0_1 (wrap64 (a1-(a0_0.size:Int))) a _ ?side1 ?side2 q.out) ?_;(case side1=>exact sD (zC m.out HB.out));(case side2=>exact n.out);rintro e w' ⟨rfl,⟨nd,rfl⟩⟩;refine⟨_,rfl,?_⟩)|((with_reducible refine gate_callee (f:=39) rfl ?_);refine sC (some 21) Try.func39 #[.slice A0_2 l0_2.length c0_2,.int .i64 a] (laws_szStringS.calls k _ _ l0_2 a b _ ?side1 ?side2 v.out) ?_;(case side1=>exact sD (zC s.out (by repeat(first|(with_reducible first|exact HB.out|apply below_alloc|apply pw_below_drewN|apply below_drew1|refine below_set ?_ d.out)|exact HB.out))));(case side2=>exact u.out);rintro e w' ⟨rfl,⟨nd,rfl⟩⟩;refine⟨_,rfl,?_⟩))
 go_ret
 exact⟨sq,sb⟩
def laws_szFunctionS.l0 : Nat → List (S136) → Int → Int → Option (Int)
 |0,_,_,_=>none
 |k+1,x0,x1,x5=>if x5<(x0.length:Int)then(if 0≤x5 then((laws_szFunction.f k ((rd_T136 x0 x5).f0) ((rd_T136 x0 x5).f1) ((rd_T136 x0 x5).f2) ((rd_T136 x0 x5).f3) x1).bind fun t121=>(if t121<0 then(some (-1))else(laws_szFunctionS.l0 k x0 t121 (wrap64 (x5+1)))))else(none))else(some x1)
def laws_szFunctionS.f (k:Nat) (l0:List (S136)) (a1:Int):Option (Int):=if(wrap64 (a1-(l0.length:Int)))<0 then(some (-1))else(laws_szFunctionS.l0 k l0 (wrap64 (a1-(l0.length:Int))) 0)
set_option maxHeartbeats 8000000 in
set_option maxRecDepth 100000 in
theorem laws_szFunctionS.calls (k:Nat) (A0:Option Addr) (c0:Nat) (l0:List (S136)) (a1:Int) (r:Int) (w:World) (hr0:Kd.C k136 w A0 l0.length l0) (hc0:l0.length≤c0) (h:laws_szFunctionS.f k l0 a1=some r):
  Calls Try.prog 60 #[.slice A0 l0.length c0,.int .i64 a1] w fun e w'=>e= .returned (.int .i64 r)∧Below w.heap.size w w':=by
 have Q:=Try.underlying136
 have J:=zM hr0
 have R:=zM hc0
 clear hr0 hc0
 have HB:=zM (Below.refl w.heap.size w)
 have H:(if(wrap64 (a1-(l0.length:Int)))<0 then(some (-1))else(laws_szFunctionS.l0 k l0 (wrap64 (a1-(l0.length:Int))) 0))=some r:=h
 clear h
 by_cases b:(wrap64 (a1-(l0.length:Int)))<0
 ·(
 rw[if_pos b]at H
 have c3b0:=zT b
 clear b
 obtain rfl:=zI H
 go_enter Try.func60,Try.ntmps60
 go_wp2
 go_ret
 exact⟨sq,sb⟩)
 rw[if_neg b]at H
 have c3b0:=zF b
 clear b
 have H':=zM H
 clear H
 go_enter Try.func60,Try.ntmps60
 go_wp2
 go_loopg [1,5] k (fun kq M O w'=>∃(c:Int) (a:Int),M= .int .i64 c∧O= .int .i64 a∧Aside0 (laws_szFunctionS.l0 kq l0 c a=some r)∧Aside0 (kq≤k)∧Aside0 (Below w.heap.size w w'))
 case atStart=>exact⟨(wrap64 (a1-(l0.length:Int))),(0),sr,sr,H',⟨Nat.le_refl _⟩,⟨sb⟩⟩
 case round=>(
 clear H'
 try clear b
 try clear c3b0
 obtain⟨c,a,rfl,rfl,HA,K,HB⟩:=hrel
 cases gk with
 |zero=>exact absurd HA.out (by simp[laws_szFunctionS.l0])
 |succ k1=>(
 have H:=HA.out
 clear HA
 simp only[laws_szFunctionS.l0]at H
 by_cases i:a<(l0.length:Int)
 ·(
 rw[if_pos i]at H
 have c4b0:=zT i
 clear i
 by_cases v:0≤a
 ·(
 rw[if_pos v]at H
 have c5b0:=zT v
 clear v
 obtain⟨x,L,H⟩:=sO H
 by_cases j:x<0
 ·(
 rw[if_pos j]at H
 have c7b0:=zT j
 clear j
 obtain rfl:=zI H
 have d:0≤(a:Int):=zO (by first|(with_reducible assumption)|assumption)
 have g:a<(l0.length:Int):=zO (by first|(with_reducible assumption)|assumption)
 obtain⟨P,y,z,A,B,D,l,m,n,o,p,q,s,u⟩:=at_T136 J.out a d g
 cases D
 replace l:=sX HB l
 replace m:=sX HB m
 replace n:=sX HB n
 replace o:=sX HB o
 have E:=zM q
 have F:=zM p
 clear q p
 have G:=zM u
 have I:=zM s
 clear u s
 replace d:=eq_true d
 replace g:=eq_true g
 go_wp2_with (first|((with_reducible refine gate_callee (f:=89) rfl ?_);refine sC (some 23) Try.func89 #[.agg #[.string ((rd_T136 l0 a).f0),.slice y ((rd_T136 l0 a).f1).length z,.slice A ((rd_T136 l0 a).f2).length B,.string ((rd_T136 l0 a).f3)],.int .i64 c] (laws_szFunction.calls k1 ((rd_T136 l0 a).f0) _ _ ((rd_T136 l0 a).f1) _ _ ((rd_T136 l0 a).f2) ((rd_T136 l0 a).f3) c x _ ?side1 ?side2 ?side3 ?side4 L.out) ?_;(case side1=>exact sD (zC E.out HB.out));(case side2=>exact F.out);(case side3=>exact sD (zC G.out HB.out));(case side4=>exact I.out);rintro e S ⟨rfl,hb⟩;refine⟨_,rfl,?_⟩;replace HB:=sB HB hb;(try clear hb)))
 go_ret
 exact⟨sq,sb⟩)
 rw[if_neg j]at H
 have c7b0:=zF j
 clear j
 have H':=zM H
 clear H
 have d:0≤(a:Int):=zO (by first|(with_reducible assumption)|assumption)
 have g:a<(l0.length:Int):=zO (by first|(with_reducible assumption)|assumption)
 obtain⟨P,y,z,A,B,D,l,m,n,o,p,q,s,u⟩:=at_T136 J.out a d g
 cases D
 replace l:=sX HB l
 replace m:=sX HB m
 replace n:=sX HB n
 replace o:=sX HB o
 have E:=zM q
 have F:=zM p
 clear q p
 have G:=zM u
 have I:=zM s
 clear u s
 replace d:=eq_true d
 replace g:=eq_true g
 go_wp2_with (first|((with_reducible refine gate_callee (f:=89) rfl ?_);refine sC (some 23) Try.func89 #[.agg #[.string ((rd_T136 l0 a).f0),.slice y ((rd_T136 l0 a).f1).length z,.slice A ((rd_T136 l0 a).f2).length B,.string ((rd_T136 l0 a).f3)],.int .i64 c] (laws_szFunction.calls k1 ((rd_T136 l0 a).f0) _ _ ((rd_T136 l0 a).f1) _ _ ((rd_T136 l0 a).f2) ((rd_T136 l0 a).f3) c x _ ?side1 ?side2 ?side3 ?side4 L.out) ?_;(case side1=>exact sD (zC E.out HB.out));(case side2=>exact F.out);(case side3=>exact sD (zC G.out HB.out));(case side4=>exact I.out);rintro e T ⟨rfl,hb⟩;refine⟨_,rfl,?_⟩;replace HB:=sB HB hb;(try clear hb)))
 go_roundg k1
 case measure=>have:=K.out;omega
 case rel=>exact⟨(x),(wrap64 (a+1)),sr,sr,H',⟨by have:=K.out;omega⟩,⟨sb⟩⟩)
 rw[if_neg v]at H
 exact absurd H (by simp))
 rw[if_neg i]at H
 have c4b0:=zF i
 clear i
 obtain rfl:=zI H
 go_wp2
 go_ret
 exact⟨sq,sb⟩))
def laws_szRecordType.f (k:Nat) (a0_0:ByteArray) (l0_1:List ByteArray) (a1:Int):Option (Int):=if(wrap64 (a1-(a0_0.size:Int)))<0 then(some (-1))else((laws_szStringS.f k l0_1 (wrap64 (a1-(a0_0.size:Int)))).bind fun t123=>(if t123<0 then(some (-1))else(some t123)))
set_option maxHeartbeats 8000000 in
set_option maxRecDepth 100000 in
theorem laws_szRecordType.calls (k:Nat) (a0_0:ByteArray) (A0_1:Option Addr) (c0_1:Nat) (l0_1:List ByteArray) (a1:Int) (r:Int) (w:World) (hr0_1:Kd.C Kd.string w A0_1 l0_1.length l0_1) (hc0_1:l0_1.length≤c0_1) (h:laws_szRecordType.f k a0_0 l0_1 a1=some r):
  Calls Try.prog 90 #[.agg #[.string a0_0,.slice A0_1 l0_1.length c0_1],.int .i64 a1] w fun e w'=>e= .returned (.int .i64 r)∧Below w.heap.size w w':=by
 have o:=Try.underlying138
 have g:=zM hr0_1
 have i:=zM hc0_1
 clear hr0_1 hc0_1
 have HB:=zM (Below.refl w.heap.size w)
 have H:(if(wrap64 (a1-(a0_0.size:Int)))<0 then(some (-1))else((laws_szStringS.f k l0_1 (wrap64 (a1-(a0_0.size:Int)))).bind fun a=>(if a<0 then(some (-1))else(some a))))=some r:=h
 clear h
 by_cases b:(wrap64 (a1-(a0_0.size:Int)))<0
 ·(
 rw[if_pos b]at H
 have c3b0:=zT b
 clear b
 obtain rfl:=zI H
 go_enter Try.func90,Try.ntmps90
 go_wp2_with (first|((with_reducible refine gate_dst (N:=2) rfl ?_);refine sV (N:=2) (cs:= #[.string a0_0,.slice A0_1 l0_1.length c0_1]) (t:=138) ?_;intro j hg p hbox hb;have d:=zM (hbox);have l:=sG HB hg;have m:=sG HB hg;replace HB:=sB HB hb;clear hb hbox hg;obtain⟨q,s,u,v⟩:=cells2 d.out))
 go_ret
 exact⟨sq,sb⟩)
 rw[if_neg b]at H
 have c3b0:=zF b
 clear b
 obtain⟨a,n,H⟩:=sO H
 by_cases c:a<0
 ·(
 rw[if_pos c]at H
 have c7b0:=zT c
 clear c
 obtain rfl:=zI H
 go_enter Try.func90,Try.ntmps90
 go_wp2_with (first|((with_reducible refine gate_dst (N:=2) rfl ?_);refine sV (N:=2) (cs:= #[.string a0_0,.slice A0_1 l0_1.length c0_1]) (t:=138) ?_;intro j hg x hbox hb;have d:=zM (hbox);have l:=sG HB hg;have m:=sG HB hg;replace HB:=sB HB hb;clear hb hbox hg;obtain⟨y,z,A,B⟩:=cells2 d.out)|((with_reducible refine gate_callee (f:=39) rfl ?_);refine sC (some 15) Try.func39 #[.slice A0_1 l0_1.length c0_1,.int .i64 (wrap64 (a1-(a0_0.size:Int)))] (laws_szStringS.calls k _ _ l0_1 (wrap64 (a1-(a0_0.size:Int))) a _ ?side1 ?side2 n.out) ?_;(case side1=>exact sD (zC g.out HB.out));(case side2=>exact i.out);rintro e w' ⟨rfl,⟨nd,rfl⟩⟩;refine⟨_,rfl,?_⟩))
 go_ret
 exact⟨sq,sb⟩)
 rw[if_neg c]at H
 have c7b0:=zF c
 clear c
 obtain rfl:=zI H
 go_enter Try.func90,Try.ntmps90
 go_wp2_with (first|((with_reducible refine gate_dst (N:=2) rfl ?_);refine sV (N:=2) (cs:= #[.string a0_0,.slice A0_1 l0_1.length c0_1]) (t:=138) ?_;intro j hg D hbox hb;have d:=zM (hbox);have l:=sG HB hg;have m:=sG HB hg;replace HB:=sB HB hb;clear hb hbox hg;obtain⟨E,F,G,I⟩:=cells2 d.out)|((with_reducible refine gate_callee (f:=39) rfl ?_);refine sC (some 15) Try.func39 #[.slice A0_1 l0_1.length c0_1,.int .i64 (wrap64 (a1-(a0_0.size:Int)))] (laws_szStringS.calls k _ _ l0_1 (wrap64 (a1-(a0_0.size:Int))) a _ ?side1 ?side2 n.out) ?_;(case side1=>exact sD (zC g.out HB.out));(case side2=>exact i.out);rintro e w' ⟨rfl,⟨nd,rfl⟩⟩;refine⟨_,rfl,?_⟩))
 go_ret
 exact⟨sq,sb⟩
def laws_szRecordTypeS.l0 : Nat → List (S138) → Int → Int → Option (Int)
 |0,_,_,_=>none
 |k+1,x0,x1,x5=>if x5<(x0.length:Int)then(if 0≤x5 then((laws_szRecordType.f k ((rd_T138 x0 x5).f0) ((rd_T138 x0 x5).f1) x1).bind fun t125=>(if t125<0 then(some (-1))else(laws_szRecordTypeS.l0 k x0 t125 (wrap64 (x5+1)))))else(none))else(some x1)
def laws_szRecordTypeS.f (k:Nat) (l0:List (S138)) (a1:Int):Option (Int):=if(wrap64 (a1-(l0.length:Int)))<0 then(some (-1))else(laws_szRecordTypeS.l0 k l0 (wrap64 (a1-(l0.length:Int))) 0)
set_option maxHeartbeats 8000000 in
set_option maxRecDepth 100000 in
theorem laws_szRecordTypeS.calls (k:Nat) (A0:Option Addr) (c0:Nat) (l0:List (S138)) (a1:Int) (r:Int) (w:World) (hr0:Kd.C k138 w A0 l0.length l0) (hc0:l0.length≤c0) (h:laws_szRecordTypeS.f k l0 a1=some r):
  Calls Try.prog 61 #[.slice A0 l0.length c0,.int .i64 a1] w fun e w'=>e= .returned (.int .i64 r)∧Below w.heap.size w w':=by
 have G:=Try.underlying138
 have z:=zM hr0
 have I:=zM hc0
 clear hr0 hc0
 have HB:=zM (Below.refl w.heap.size w)
 have H:(if(wrap64 (a1-(l0.length:Int)))<0 then(some (-1))else(laws_szRecordTypeS.l0 k l0 (wrap64 (a1-(l0.length:Int))) 0))=some r:=h
 clear h
 by_cases b:(wrap64 (a1-(l0.length:Int)))<0
 ·(
 rw[if_pos b]at H
 have c3b0:=zT b
 clear b
 obtain rfl:=zI H
 go_enter Try.func61,Try.ntmps61
 go_wp2
 go_ret
 exact⟨sq,sb⟩)
 rw[if_neg b]at H
 have c3b0:=zF b
 clear b
 have H':=zM H
 clear H
 go_enter Try.func61,Try.ntmps61
 go_wp2
 go_loopg [1,5] k (fun kq D E w'=>∃(c:Int) (a:Int),D= .int .i64 c∧E= .int .i64 a∧Aside0 (laws_szRecordTypeS.l0 kq l0 c a=some r)∧Aside0 (kq≤k)∧Aside0 (Below w.heap.size w w'))
 case atStart=>exact⟨(wrap64 (a1-(l0.length:Int))),(0),sr,sr,H',⟨Nat.le_refl _⟩,⟨sb⟩⟩
 case round=>(
 clear H'
 try clear b
 try clear c3b0
 obtain⟨c,a,rfl,rfl,HA,A,HB⟩:=hrel
 cases gk with
 |zero=>exact absurd HA.out (by simp[laws_szRecordTypeS.l0])
 |succ k1=>(
 have H:=HA.out
 clear HA
 simp only[laws_szRecordTypeS.l0]at H
 by_cases i:a<(l0.length:Int)
 ·(
 rw[if_pos i]at H
 have c4b0:=zT i
 clear i
 by_cases p:0≤a
 ·(
 rw[if_pos p]at H
 have c5b0:=zT p
 clear p
 obtain⟨q,B,H⟩:=sO H
 by_cases j:q<0
 ·(
 rw[if_pos j]at H
 have c7b0:=zT j
 clear j
 obtain rfl:=zI H
 have d:0≤(a:Int):=zO (by first|(with_reducible assumption)|assumption)
 have g:a<(l0.length:Int):=zO (by first|(with_reducible assumption)|assumption)
 obtain⟨F,s,u,v,l,m,n,o⟩:=at_T138 z.out a d g
 cases v
 replace l:=sX HB l
 replace m:=sX HB m
 have x:=zM o
 have y:=zM n
 clear o n
 replace d:=eq_true d
 replace g:=eq_true g
 go_wp2_with (first|((with_reducible refine gate_callee (f:=90) rfl ?_);refine sC (some 23) Try.func90 #[.agg #[.string ((rd_T138 l0 a).f0),.slice s ((rd_T138 l0 a).f1).length u],.int .i64 c] (laws_szRecordType.calls k1 ((rd_T138 l0 a).f0) _ _ ((rd_T138 l0 a).f1) c q _ ?side1 ?side2 B.out) ?_;(case side1=>exact sD (zC x.out HB.out));(case side2=>exact y.out);rintro e J ⟨rfl,hb⟩;refine⟨_,rfl,?_⟩;replace HB:=sB HB hb;(try clear hb)))
 go_ret
 exact⟨sq,sb⟩)
 rw[if_neg j]at H
 have c7b0:=zF j
 clear j
 have H':=zM H
 clear H
 have d:0≤(a:Int):=zO (by first|(with_reducible assumption)|assumption)
 have g:a<(l0.length:Int):=zO (by first|(with_reducible assumption)|assumption)
 obtain⟨F,s,u,v,l,m,n,o⟩:=at_T138 z.out a d g
 cases v
 replace l:=sX HB l
 replace m:=sX HB m
 have x:=zM o
 have y:=zM n
 clear o n
 replace d:=eq_true d
 replace g:=eq_true g
 go_wp2_with (first|((with_reducible refine gate_callee (f:=90) rfl ?_);refine sC (some 23) Try.func90 #[.agg #[.string ((rd_T138 l0 a).f0),.slice s ((rd_T138 l0 a).f1).length u],.int .i64 c] (laws_szRecordType.calls k1 ((rd_T138 l0 a).f0) _ _ ((rd_T138 l0 a).f1) c q _ ?side1 ?side2 B.out) ?_;(case side1=>exact sD (zC x.out HB.out));(case side2=>exact y.out);rintro e K ⟨rfl,hb⟩;refine⟨_,rfl,?_⟩;replace HB:=sB HB hb;(try clear hb)))
 go_roundg k1
 case measure=>have:=A.out;omega
 case rel=>exact⟨(q),(wrap64 (a+1)),sr,sr,H',⟨by have:=A.out;omega⟩,⟨sb⟩⟩)
 rw[if_neg p]at H
 exact absurd H (by simp))
 rw[if_neg i]at H
 have c4b0:=zF i
 clear i
 obtain rfl:=zI H
 go_wp2
 go_ret
 exact⟨sq,sb⟩))
def laws_szFile.f (k:Nat) (a0_0:ByteArray) (l0_1:List ByteArray) (a0_2:Int) (a0_3:Int) (a1:Int):Option (Int):=if(wrap64 (a1-(a0_0.size:Int)))<0 then(some (-1))else((laws_szStringS.f k l0_1 (wrap64 (a1-(a0_0.size:Int)))).bind fun t131=>(if t131<0 then(some (-1))else(some t131)))
set_option maxHeartbeats 8000000 in
set_option maxRecDepth 100000 in
theorem laws_szFile.calls (k:Nat) (a0_0:ByteArray) (A0_1:Option Addr) (c0_1:Nat) (l0_1:List ByteArray) (a0_2:Int) (a0_3:Int) (a1:Int) (r:Int) (w:World) (hr0_1:Kd.C Kd.string w A0_1 l0_1.length l0_1) (hc0_1:l0_1.length≤c0_1) (h:laws_szFile.f k a0_0 l0_1 a0_2 a0_3 a1=some r):
  Calls Try.prog 80 #[.agg #[.string a0_0,.slice A0_1 l0_1.length c0_1,.int .i64 a0_2,.int .i64 a0_3],.int .i64 a1] w fun e w'=>e= .returned (.int .i64 r)∧Below w.heap.size w w':=by
 have o:=Try.underlying127
 have g:=zM hr0_1
 have i:=zM hc0_1
 clear hr0_1 hc0_1
 have HB:=zM (Below.refl w.heap.size w)
 have H:(if(wrap64 (a1-(a0_0.size:Int)))<0 then(some (-1))else((laws_szStringS.f k l0_1 (wrap64 (a1-(a0_0.size:Int)))).bind fun a=>(if a<0 then(some (-1))else(some a))))=some r:=h
 clear h
 by_cases b:(wrap64 (a1-(a0_0.size:Int)))<0
 ·(
 rw[if_pos b]at H
 have c3b0:=zT b
 clear b
 obtain rfl:=zI H
 go_enter Try.func80,Try.ntmps80
 go_wp2_with (first|((with_reducible refine gate_dst (N:=2) rfl ?_);refine sV (N:=2) (cs:= #[.string a0_0,.slice A0_1 l0_1.length c0_1,.int .i64 a0_2,.int .i64 a0_3]) (t:=127) ?_;intro j hg p hbox hb;have d:=zM (hbox);have l:=sG HB hg;have m:=sG HB hg;replace HB:=sB HB hb;clear hb hbox hg;obtain⟨q,s,u,v,x,y,z,A⟩:=cells4 d.out))
 go_ret
 exact⟨sq,sb⟩)
 rw[if_neg b]at H
 have c3b0:=zF b
 clear b
 obtain⟨a,n,H⟩:=sO H
 by_cases c:a<0
 ·(
 rw[if_pos c]at H
 have c7b0:=zT c
 clear c
 obtain rfl:=zI H
 go_enter Try.func80,Try.ntmps80
 go_wp2_with (first|((with_reducible refine gate_dst (N:=2) rfl ?_);refine sV (N:=2) (cs:= #[.string a0_0,.slice A0_1 l0_1.length c0_1,.int .i64 a0_2,.int .i64 a0_3]) (t:=127) ?_;intro j hg B hbox hb;have d:=zM (hbox);have l:=sG HB hg;have m:=sG HB hg;replace HB:=sB HB hb;clear hb hbox hg;obtain⟨D,E,F,G,I,J,K,L⟩:=cells4 d.out)|((with_reducible refine gate_callee (f:=39) rfl ?_);refine sC (some 15) Try.func39 #[.slice A0_1 l0_1.length c0_1,.int .i64 (wrap64 (a1-(a0_0.size:Int)))] (laws_szStringS.calls k _ _ l0_1 (wrap64 (a1-(a0_0.size:Int))) a _ ?side1 ?side2 n.out) ?_;(case side1=>exact sD (zC g.out HB.out));(case side2=>exact i.out);rintro e w' ⟨rfl,⟨nd,rfl⟩⟩;refine⟨_,rfl,?_⟩))
 go_ret
 exact⟨sq,sb⟩)
 rw[if_neg c]at H
 have c7b0:=zF c
 clear c
 obtain rfl:=zI H
 go_enter Try.func80,Try.ntmps80
 go_wp2_with (first|((with_reducible refine gate_dst (N:=2) rfl ?_);refine sV (N:=2) (cs:= #[.string a0_0,.slice A0_1 l0_1.length c0_1,.int .i64 a0_2,.int .i64 a0_3]) (t:=127) ?_;intro j hg M hbox hb;have d:=zM (hbox);have l:=sG HB hg;have m:=sG HB hg;replace HB:=sB HB hb;clear hb hbox hg;obtain⟨O,P,Q,R,S,T,U,V⟩:=cells4 d.out)|((with_reducible refine gate_callee (f:=39) rfl ?_);refine sC (some 15) Try.func39 #[.slice A0_1 l0_1.length c0_1,.int .i64 (wrap64 (a1-(a0_0.size:Int)))] (laws_szStringS.calls k _ _ l0_1 (wrap64 (a1-(a0_0.size:Int))) a _ ?side1 ?side2 n.out) ?_;(case side1=>exact sD (zC g.out HB.out));(case side2=>exact i.out);rintro e w' ⟨rfl,⟨nd,rfl⟩⟩;refine⟨_,rfl,?_⟩))
 go_ret
 exact⟨sq,sb⟩
def laws_szFileS.l0 : Nat → List (S127) → Int → Int → Option (Int)
 |0,_,_,_=>none
 |k+1,x0,x1,x5=>if x5<(x0.length:Int)then(if 0≤x5 then((laws_szFile.f k ((rd_T127 x0 x5).f0) ((rd_T127 x0 x5).f1) ((rd_T127 x0 x5).f2) ((rd_T127 x0 x5).f3) x1).bind fun t133=>(if t133<0 then(some (-1))else(laws_szFileS.l0 k x0 t133 (wrap64 (x5+1)))))else(none))else(some x1)
def laws_szFileS.f (k:Nat) (l0:List (S127)) (a1:Int):Option (Int):=if(wrap64 (a1-(l0.length:Int)))<0 then(some (-1))else(laws_szFileS.l0 k l0 (wrap64 (a1-(l0.length:Int))) 0)
set_option maxHeartbeats 8000000 in
set_option maxRecDepth 100000 in
theorem laws_szFileS.calls (k:Nat) (A0:Option Addr) (c0:Nat) (l0:List (S127)) (a1:Int) (r:Int) (w:World) (hr0:Kd.C k127 w A0 l0.length l0) (hc0:l0.length≤c0) (h:laws_szFileS.f k l0 a1=some r):
  Calls Try.prog 40 #[.slice A0 l0.length c0,.int .i64 a1] w fun e w'=>e= .returned (.int .i64 r)∧Below w.heap.size w w':=by
 have J:=Try.underlying127
 have B:=zM hr0
 have K:=zM hc0
 clear hr0 hc0
 have HB:=zM (Below.refl w.heap.size w)
 have H:(if(wrap64 (a1-(l0.length:Int)))<0 then(some (-1))else(laws_szFileS.l0 k l0 (wrap64 (a1-(l0.length:Int))) 0))=some r:=h
 clear h
 by_cases b:(wrap64 (a1-(l0.length:Int)))<0
 ·(
 rw[if_pos b]at H
 have c3b0:=zT b
 clear b
 obtain rfl:=zI H
 go_enter Try.func40,Try.ntmps40
 go_wp2
 go_ret
 exact⟨sq,sb⟩)
 rw[if_neg b]at H
 have c3b0:=zF b
 clear b
 have H':=zM H
 clear H
 go_enter Try.func40,Try.ntmps40
 go_wp2
 go_loopg [1,5] k (fun kq F G w'=>∃(c:Int) (a:Int),F= .int .i64 c∧G= .int .i64 a∧Aside0 (laws_szFileS.l0 kq l0 c a=some r)∧Aside0 (kq≤k)∧Aside0 (Below w.heap.size w w'))
 case atStart=>exact⟨(wrap64 (a1-(l0.length:Int))),(0),sr,sr,H',⟨Nat.le_refl _⟩,⟨sb⟩⟩
 case round=>(
 clear H'
 try clear b
 try clear c3b0
 obtain⟨c,a,rfl,rfl,HA,D,HB⟩:=hrel
 cases gk with
 |zero=>exact absurd HA.out (by simp[laws_szFileS.l0])
 |succ k1=>(
 have H:=HA.out
 clear HA
 simp only[laws_szFileS.l0]at H
 by_cases i:a<(l0.length:Int)
 ·(
 rw[if_pos i]at H
 have c4b0:=zT i
 clear i
 by_cases s:0≤a
 ·(
 rw[if_pos s]at H
 have c5b0:=zT s
 clear s
 obtain⟨u,E,H⟩:=sO H
 by_cases j:u<0
 ·(
 rw[if_pos j]at H
 have c7b0:=zT j
 clear j
 obtain rfl:=zI H
 have d:0≤(a:Int):=zO (by first|(with_reducible assumption)|assumption)
 have g:a<(l0.length:Int):=zO (by first|(with_reducible assumption)|assumption)
 obtain⟨I,v,x,y,l,m,n,o,p,q⟩:=at_T127 B.out a d g
 cases y
 replace l:=sX HB l
 replace m:=sX HB m
 replace n:=sX HB n
 replace o:=sX HB o
 have z:=zM q
 have A:=zM p
 clear q p
 replace d:=eq_true d
 replace g:=eq_true g
 go_wp2_with (first|((with_reducible refine gate_callee (f:=80) rfl ?_);refine sC (some 23) Try.func80 #[.agg #[.string ((rd_T127 l0 a).f0),.slice v ((rd_T127 l0 a).f1).length x,.int .i64 ((rd_T127 l0 a).f2),.int .i64 ((rd_T127 l0 a).f3)],.int .i64 c] (laws_szFile.calls k1 ((rd_T127 l0 a).f0) _ _ ((rd_T127 l0 a).f1) ((rd_T127 l0 a).f2) ((rd_T127 l0 a).f3) c u _ ?side1 ?side2 E.out) ?_;(case side1=>exact sD (zC z.out HB.out));(case side2=>exact A.out);rintro e L ⟨rfl,hb⟩;refine⟨_,rfl,?_⟩;replace HB:=sB HB hb;(try clear hb)))
 go_ret
 exact⟨sq,sb⟩)
 rw[if_neg j]at H
 have c7b0:=zF j
 clear j
 have H':=zM H
 clear H
 have d:0≤(a:Int):=zO (by first|(with_reducible assumption)|assumption)
 have g:a<(l0.length:Int):=zO (by first|(with_reducible assumption)|assumption)
 obtain⟨I,v,x,y,l,m,n,o,p,q⟩:=at_T127 B.out a d g
 cases y
 replace l:=sX HB l
 replace m:=sX HB m
 replace n:=sX HB n
 replace o:=sX HB o
 have z:=zM q
 have A:=zM p
 clear q p
 replace d:=eq_true d
 replace g:=eq_true g
 go_wp2_with (first|((with_reducible refine gate_callee (f:=80) rfl ?_);refine sC (some 23) Try.func80 #[.agg #[.string ((rd_T127 l0 a).f0),.slice v ((rd_T127 l0 a).f1).length x,.int .i64 ((rd_T127 l0 a).f2),.int .i64 ((rd_T127 l0 a).f3)],.int .i64 c] (laws_szFile.calls k1 ((rd_T127 l0 a).f0) _ _ ((rd_T127 l0 a).f1) ((rd_T127 l0 a).f2) ((rd_T127 l0 a).f3) c u _ ?side1 ?side2 E.out) ?_;(case side1=>exact sD (zC z.out HB.out));(case side2=>exact A.out);rintro e M ⟨rfl,hb⟩;refine⟨_,rfl,?_⟩;replace HB:=sB HB hb;(try clear hb)))
 go_roundg k1
 case measure=>have:=D.out;omega
 case rel=>exact⟨(u),(wrap64 (a+1)),sr,sr,H',⟨by have:=D.out;omega⟩,⟨sb⟩⟩)
 rw[if_neg s]at H
 exact absurd H (by simp))
 rw[if_neg i]at H
 have c4b0:=zF i
 clear i
 obtain rfl:=zI H
 go_wp2
 go_ret
 exact⟨sq,sb⟩))
end Go.Proofs.Ytnneadpahjkhgaa.PFnExactSameMemory
