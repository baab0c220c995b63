/- Printed functions: laws_szPatternIns, laws_szPatternInsS, laws_szPatternEntry, laws_szPatternEntryS, laws_szPatternCode. -/
import Derived.Test.YtcppdkdnpmgpmaaYEoP0
namespace Go.Proofs.Ytcppdkdnpmgpmaa.PFnExactEntryOf
open Go.RowKit Go.Proofs.YtcppdkdnpmgpmaaG Go.Proofs.YtcppdkdnpmgpmaaW.PrintWords Go.Proofs.YtcppdkdnpmgpmaaW.PrintLast Go.Proofs.YtcppdkdnpmgpmaaW.PrintMore
attribute [local go_sem] max2_int min2_int max_two min_two max_three min_three max_four min_four
set_option linter.unusedVariables false
set_option linter.unusedSimpArgs false
def laws_szPatternIns.f (a0_0:Int) (a0_1:Int) (a0_2:ByteArray) (a1:Int):Option (Int):=if(wrap64 (a1-(a0_2.size:Int)))<0 then(some (-1))else(some (wrap64 (a1-(a0_2.size:Int))))
set_option maxHeartbeats 8000000 in
set_option maxRecDepth 100000 in
theorem laws_szPatternIns.calls (a0_0:Int) (a0_1:Int) (a0_2:ByteArray) (a1:Int) (r:Int) (w:World) (h:laws_szPatternIns.f a0_0 a0_1 a0_2 a1=some r):
  Calls Try.prog 19 #[.agg #[.int .i64 a0_0,.int .i64 a0_1,.string a0_2],.int .i64 a1] w fun e w'=>e= .returned (.int .i64 r)∧Below w.heap.size w w':=by
 have i:=Try.underlying47
 have HB:=zM (Below.refl w.heap.size w)
 have H:(if(wrap64 (a1-(a0_2.size:Int)))<0 then(some (-1))else(some (wrap64 (a1-(a0_2.size:Int)))))=some r:=h
 clear h
 by_cases a:(wrap64 (a1-(a0_2.size:Int)))<0
 ·(
 rw[if_pos a]at H
 have c3b0:=zT a
 clear a
 obtain rfl:=zI H
 go_enter Try.func19,Try.ntmps19
 go_wp2_with (first|((with_reducible refine gate_dst (N:=2) rfl ?_);refine sV (N:=2) (cs:= #[.int .i64 a0_0,.int .i64 a0_1,.string a0_2]) (t:=47) ?_;intro c hg j hbox hb;have b:=zM (hbox);have d:=sG HB hg;have g:=sG HB hg;replace HB:=sB HB hb;clear hb hbox hg;obtain⟨l,m,n,o,p,q⟩:=cells3 b.out))
 go_ret
 exact⟨sq,sb⟩)
 rw[if_neg a]at H
 have c3b0:=zF a
 clear a
 obtain rfl:=zI H
 go_enter Try.func19,Try.ntmps19
 go_wp2_with (first|((with_reducible refine gate_dst (N:=2) rfl ?_);refine sV (N:=2) (cs:= #[.int .i64 a0_0,.int .i64 a0_1,.string a0_2]) (t:=47) ?_;intro c hg s hbox hb;have b:=zM (hbox);have d:=sG HB hg;have g:=sG HB hg;replace HB:=sB HB hb;clear hb hbox hg;obtain⟨u,v,x,y,z,A⟩:=cells3 b.out))
 go_ret
 exact⟨sq,sb⟩
def laws_szPatternInsS.l0 : Nat → List (S47) → Int → Int → Option (Int)
 |0,_,_,_=>none
 |k+1,x0,x1,x5=>if x5<(x0.length:Int)then(if 0≤x5 then((laws_szPatternIns.f ((rd_T47 x0 x5).f0) ((rd_T47 x0 x5).f1) ((rd_T47 x0 x5).f2) x1).bind fun t103=>(if t103<0 then(some (-1))else(laws_szPatternInsS.l0 k x0 t103 (wrap64 (x5+1)))))else(none))else(some x1)
def laws_szPatternInsS.f (k:Nat) (l0:List (S47)) (a1:Int):Option (Int):=if(wrap64 (a1-(l0.length:Int)))<0 then(some (-1))else(laws_szPatternInsS.l0 k l0 (wrap64 (a1-(l0.length:Int))) 0)
set_option maxHeartbeats 8000000 in
set_option maxRecDepth 100000 in
theorem laws_szPatternInsS.calls (k:Nat) (A0:Option Addr) (c0:Nat) (l0:List (S47)) (a1:Int) (r:Int) (w:World) (hr0:Kd.C k47 w A0 l0.length l0) (hc0:l0.length≤c0) (h:laws_szPatternInsS.f k l0 a1=some r):
  Calls Try.prog 9 #[.slice A0 l0.length c0,.int .i64 a1] w fun e w'=>e= .returned (.int .i64 r)∧Below w.heap.size w w':=by
 have A:=Try.underlying47
 have s:=zM hr0
 have B:=zM hc0
 clear hr0 hc0
 have HB:=zM (Below.refl w.heap.size w)
 have H:(if(wrap64 (a1-(l0.length:Int)))<0 then(some (-1))else(laws_szPatternInsS.l0 k l0 (wrap64 (a1-(l0.length:Int))) 0))=some r:=h
 clear h
 by_cases b:(wrap64 (a1-(l0.length:Int)))<0
 ·(
 rw[if_pos b]at H
 have c3b0:=zT b
 clear b
 obtain rfl:=zI H
 go_enter Try.func9,Try.ntmps9
 go_wp2
 go_ret
 exact⟨sq,sb⟩)
 rw[if_neg b]at H
 have c3b0:=zF b
 clear b
 have H':=zM H
 clear H
 go_enter Try.func9,Try.ntmps9
 go_wp2
 go_loopg [1,5] k (fun kq x y w'=>∃(c:Int) (a:Int),x= .int .i64 c∧y= .int .i64 a∧Aside0 (laws_szPatternInsS.l0 kq l0 c a=some r)∧Aside0 (kq≤k)∧Aside0 (Below w.heap.size w w'))
 case atStart=>exact⟨(wrap64 (a1-(l0.length:Int))),(0),sr,sr,H',⟨Nat.le_refl _⟩,⟨sb⟩⟩
 case round=>(
 clear H'
 try clear b
 try clear c3b0
 obtain⟨c,a,rfl,rfl,HA,u,HB⟩:=hrel
 cases gk with
 |zero=>exact absurd HA.out (by simp[laws_szPatternInsS.l0])
 |succ k1=>(
 have H:=HA.out
 clear HA
 simp only[laws_szPatternInsS.l0]at H
 by_cases i:a<(l0.length:Int)
 ·(
 rw[if_pos i]at H
 have c4b0:=zT i
 clear i
 by_cases o:0≤a
 ·(
 rw[if_pos o]at H
 have c5b0:=zT o
 clear o
 obtain⟨p,v,H⟩:=sO H
 by_cases j:p<0
 ·(
 rw[if_pos j]at H
 have c7b0:=zT j
 clear j
 obtain rfl:=zI H
 have d:0≤(a:Int):=zzA
 have g:a<(l0.length:Int):=zzA
 obtain⟨z,q,l,m,n⟩:=at_T47 s.out a d g
 cases q
 replace l:=sX HB l
 replace m:=sX HB m
 replace n:=sX HB n
 replace d:=eq_true d
 replace g:=eq_true g
 go_wp2_with (first|((with_reducible refine gate_callee (f:=19) rfl ?_);refine sC (some 23) Try.func19 #[.agg #[.int .i64 ((rd_T47 l0 a).f0),.int .i64 ((rd_T47 l0 a).f1),.string ((rd_T47 l0 a).f2)],.int .i64 c] (laws_szPatternIns.calls ((rd_T47 l0 a).f0) ((rd_T47 l0 a).f1) ((rd_T47 l0 a).f2) c p _ v.out) ?_;rintro e D ⟨rfl,hb⟩;refine⟨_,rfl,?_⟩;replace HB:=sB HB hb;(try clear hb)))
 go_ret
 exact⟨sq,sb⟩)
 rw[if_neg j]at H
 have c7b0:=zF j
 clear j
 have H':=zM H
 clear H
 have d:0≤(a:Int):=zzA
 have g:a<(l0.length:Int):=zzA
 obtain⟨z,q,l,m,n⟩:=at_T47 s.out a d g
 cases q
 replace l:=sX HB l
 replace m:=sX HB m
 replace n:=sX HB n
 replace d:=eq_true d
 replace g:=eq_true g
 go_wp2_with (first|((with_reducible refine gate_callee (f:=19) rfl ?_);refine sC (some 23) Try.func19 #[.agg #[.int .i64 ((rd_T47 l0 a).f0),.int .i64 ((rd_T47 l0 a).f1),.string ((rd_T47 l0 a).f2)],.int .i64 c] (laws_szPatternIns.calls ((rd_T47 l0 a).f0) ((rd_T47 l0 a).f1) ((rd_T47 l0 a).f2) c p _ v.out) ?_;rintro e E ⟨rfl,hb⟩;refine⟨_,rfl,?_⟩;replace HB:=sB HB hb;(try clear hb)))
 go_roundg k1
 case measure=>have:=u.out;omega
 case rel=>exact⟨(p),(wrap64 (a+1)),sr,sr,H',⟨by have:=u.out;omega⟩,⟨sb⟩⟩)
 rw[if_neg o]at H
 exact absurd H (by simp))
 rw[if_neg i]at H
 have c4b0:=zF i
 clear i
 obtain rfl:=zI H
 go_wp2
 go_ret
 exact⟨sq,sb⟩))
def laws_szPatternEntry.f (a0_0:ByteArray) (a0_1:Int) (a1:Int):Option (Int):=if(wrap64 (a1-(a0_0.size:Int)))<0 then(some (-1))else(some (wrap64 (a1-(a0_0.size:Int))))
set_option maxHeartbeats 8000000 in
set_option maxRecDepth 100000 in
theorem laws_szPatternEntry.calls (a0_0:ByteArray) (a0_1:Int) (a1:Int) (r:Int) (w:World) (h:laws_szPatternEntry.f a0_0 a0_1 a1=some r):
  Calls Try.prog 20 #[.agg #[.string a0_0,.int .i64 a0_1],.int .i64 a1] w fun e w'=>e= .returned (.int .i64 r)∧Below w.heap.size w w':=by
 have i:=Try.underlying50
 have HB:=zM (Below.refl w.heap.size w)
 have H:(if(wrap64 (a1-(a0_0.size:Int)))<0 then(some (-1))else(some (wrap64 (a1-(a0_0.size:Int)))))=some r:=h
 clear h
 by_cases a:(wrap64 (a1-(a0_0.size:Int)))<0
 ·(
 rw[if_pos a]at H
 have c3b0:=zT a
 clear a
 obtain rfl:=zI H
 go_enter Try.func20,Try.ntmps20
 go_wp2_with (first|((with_reducible refine gate_dst (N:=2) rfl ?_);refine sV (N:=2) (cs:= #[.string a0_0,.int .i64 a0_1]) (t:=50) ?_;intro c hg j hbox hb;have b:=zM (hbox);have d:=sG HB hg;have g:=sG HB hg;replace HB:=sB HB hb;clear hb hbox hg;obtain⟨l,m,n,o⟩:=cells2 b.out))
 go_ret
 exact⟨sq,sb⟩)
 rw[if_neg a]at H
 have c3b0:=zF a
 clear a
 obtain rfl:=zI H
 go_enter Try.func20,Try.ntmps20
 go_wp2_with (first|((with_reducible refine gate_dst (N:=2) rfl ?_);refine sV (N:=2) (cs:= #[.string a0_0,.int .i64 a0_1]) (t:=50) ?_;intro c hg p hbox hb;have b:=zM (hbox);have d:=sG HB hg;have g:=sG HB hg;replace HB:=sB HB hb;clear hb hbox hg;obtain⟨q,s,u,v⟩:=cells2 b.out))
 go_ret
 exact⟨sq,sb⟩
def laws_szPatternEntryS.l0 : Nat → List (S50) → Int → Int → Option (Int)
 |0,_,_,_=>none
 |k+1,x0,x1,x5=>if x5<(x0.length:Int)then(if 0≤x5 then((laws_szPatternEntry.f ((rd_T50 x0 x5).f0) ((rd_T50 x0 x5).f1) x1).bind fun t106=>(if t106<0 then(some (-1))else(laws_szPatternEntryS.l0 k x0 t106 (wrap64 (x5+1)))))else(none))else(some x1)
def laws_szPatternEntryS.f (k:Nat) (l0:List (S50)) (a1:Int):Option (Int):=if(wrap64 (a1-(l0.length:Int)))<0 then(some (-1))else(laws_szPatternEntryS.l0 k l0 (wrap64 (a1-(l0.length:Int))) 0)
set_option maxHeartbeats 8000000 in
set_option maxRecDepth 100000 in
theorem laws_szPatternEntryS.calls (k:Nat) (A0:Option Addr) (c0:Nat) (l0:List (S50)) (a1:Int) (r:Int) (w:World) (hr0:Kd.C k50 w A0 l0.length l0) (hc0:l0.length≤c0) (h:laws_szPatternEntryS.f k l0 a1=some r):
  Calls Try.prog 10 #[.slice A0 l0.length c0,.int .i64 a1] w fun e w'=>e= .returned (.int .i64 r)∧Below w.heap.size w w':=by
 have z:=Try.underlying50
 have q:=zM hr0
 have A:=zM hc0
 clear hr0 hc0
 have HB:=zM (Below.refl w.heap.size w)
 have H:(if(wrap64 (a1-(l0.length:Int)))<0 then(some (-1))else(laws_szPatternEntryS.l0 k l0 (wrap64 (a1-(l0.length:Int))) 0))=some r:=h
 clear h
 by_cases b:(wrap64 (a1-(l0.length:Int)))<0
 ·(
 rw[if_pos b]at H
 have c3b0:=zT b
 clear b
 obtain rfl:=zI H
 go_enter Try.func10,Try.ntmps10
 go_wp2
 go_ret
 exact⟨sq,sb⟩)
 rw[if_neg b]at H
 have c3b0:=zF b
 clear b
 have H':=zM H
 clear H
 go_enter Try.func10,Try.ntmps10
 go_wp2
 go_loopg [1,5] k (fun kq v x w'=>∃(c:Int) (a:Int),v= .int .i64 c∧x= .int .i64 a∧Aside0 (laws_szPatternEntryS.l0 kq l0 c a=some r)∧Aside0 (kq≤k)∧Aside0 (Below w.heap.size w w'))
 case atStart=>exact⟨(wrap64 (a1-(l0.length:Int))),(0),sr,sr,H',⟨Nat.le_refl _⟩,⟨sb⟩⟩
 case round=>(
 clear H'
 try clear b
 try clear c3b0
 obtain⟨c,a,rfl,rfl,HA,s,HB⟩:=hrel
 cases gk with
 |zero=>exact absurd HA.out (by simp[laws_szPatternEntryS.l0])
 |succ k1=>(
 have H:=HA.out
 clear HA
 simp only[laws_szPatternEntryS.l0]at H
 by_cases i:a<(l0.length:Int)
 ·(
 rw[if_pos i]at H
 have c4b0:=zT i
 clear i
 by_cases n:0≤a
 ·(
 rw[if_pos n]at H
 have c5b0:=zT n
 clear n
 obtain⟨o,u,H⟩:=sO H
 by_cases j:o<0
 ·(
 rw[if_pos j]at H
 have c7b0:=zT j
 clear j
 obtain rfl:=zI H
 have d:0≤(a:Int):=zzA
 have g:a<(l0.length:Int):=zzA
 obtain⟨y,p,l,m⟩:=at_T50 q.out a d g
 cases p
 replace l:=sX HB l
 replace m:=sX HB m
 replace d:=eq_true d
 replace g:=eq_true g
 go_wp2_with (first|((with_reducible refine gate_callee (f:=20) rfl ?_);refine sC (some 23) Try.func20 #[.agg #[.string ((rd_T50 l0 a).f0),.int .i64 ((rd_T50 l0 a).f1)],.int .i64 c] (laws_szPatternEntry.calls ((rd_T50 l0 a).f0) ((rd_T50 l0 a).f1) c o _ u.out) ?_;rintro e B ⟨rfl,hb⟩;refine⟨_,rfl,?_⟩;replace HB:=sB HB hb;(try clear hb)))
 go_ret
 exact⟨sq,sb⟩)
 rw[if_neg j]at H
 have c7b0:=zF j
 clear j
 have H':=zM H
 clear H
 have d:0≤(a:Int):=zzA
 have g:a<(l0.length:Int):=zzA
 obtain⟨y,p,l,m⟩:=at_T50 q.out a d g
 cases p
 replace l:=sX HB l
 replace m:=sX HB m
 replace d:=eq_true d
 replace g:=eq_true g
 go_wp2_with (first|((with_reducible refine gate_callee (f:=20) rfl ?_);refine sC (some 23) Try.func20 #[.agg #[.string ((rd_T50 l0 a).f0),.int .i64 ((rd_T50 l0 a).f1)],.int .i64 c] (laws_szPatternEntry.calls ((rd_T50 l0 a).f0) ((rd_T50 l0 a).f1) c o _ u.out) ?_;rintro e D ⟨rfl,hb⟩;refine⟨_,rfl,?_⟩;replace HB:=sB HB hb;(try clear hb)))
 go_roundg k1
 case measure=>have:=s.out;omega
 case rel=>exact⟨(o),(wrap64 (a+1)),sr,sr,H',⟨by have:=s.out;omega⟩,⟨sb⟩⟩)
 rw[if_neg n]at H
 exact absurd H (by simp))
 rw[if_neg i]at H
 have c4b0:=zF i
 clear i
 obtain rfl:=zI H
 go_wp2
 go_ret
 exact⟨sq,sb⟩))
def laws_szPatternCode.f (k:Nat) (l0_0:List (S47)) (l0_1:List (S50)) (a1:Int):Option (Int):=(laws_szPatternInsS.f k l0_0 a1).bind fun t108=>(if t108<0 then(some (-1))else((laws_szPatternEntryS.f k l0_1 t108).bind fun t109=>(if t109<0 then(some (-1))else(some t109))))
set_option maxHeartbeats 8000000 in
set_option maxRecDepth 100000 in
theorem laws_szPatternCode.calls (k:Nat) (A0_0:Option Addr) (c0_0:Nat) (l0_0:List (S47)) (A0_1:Option Addr) (c0_1:Nat) (l0_1:List (S50)) (a1:Int) (r:Int) (w:World) (hr0_0:Kd.C k47 w A0_0 l0_0.length l0_0) (hc0_0:l0_0.length≤c0_0) (hr0_1:Kd.C k50 w A0_1 l0_1.length l0_1) (hc0_1:l0_1.length≤c0_1) (h:laws_szPatternCode.f k l0_0 l0_1 a1=some r):
  Calls Try.prog 4 #[.agg #[.slice A0_0 l0_0.length c0_0,.slice A0_1 l0_1.length c0_1],.int .i64 a1] w fun e w'=>e= .returned (.int .i64 r)∧Below w.heap.size w w':=by
 have u:=Try.underlying25
 have i:=zM hr0_0
 have j:=zM hc0_0
 clear hr0_0 hc0_0
 have m:=zM hr0_1
 have n:=zM hc0_1
 clear hr0_1 hc0_1
 have HB:=zM (Below.refl w.heap.size w)
 have H:((laws_szPatternInsS.f k l0_0 a1).bind fun b=>(if b<0 then(some (-1))else((laws_szPatternEntryS.f k l0_1 b).bind fun c=>(if c<0 then(some (-1))else(some c)))))=some r:=h
 clear h
 obtain⟨b,l,H⟩:=sO H
 by_cases d:b<0
 ·(
 rw[if_pos d]at H
 have c4b0:=zT d
 clear d
 obtain rfl:=zI H
 go_enter Try.func4,Try.ntmps4
 go_wp2_with (first|((with_reducible refine gate_dst (N:=2) rfl ?_);refine sV (N:=2) (cs:= #[.slice A0_0 l0_0.length c0_0,.slice A0_1 l0_1.length c0_1]) (t:=25) ?_;intro o hg v hbox hb;have a:=zM (hbox);have p:=sG HB hg;have q:=sG HB hg;replace HB:=sB HB hb;clear hb hbox hg;obtain⟨x,y,z,A⟩:=cells2 a.out)|((with_reducible refine gate_callee (f:=9) rfl ?_);refine sC (some 8) Try.func9 #[.slice A0_0 l0_0.length c0_0,.int .i64 a1] (laws_szPatternInsS.calls k _ _ l0_0 a1 b _ ?side1 ?side2 l.out) ?_;(case side1=>exact sD (zC i.out HB.out));(case side2=>exact j.out);rintro e B ⟨rfl,hb⟩;refine⟨_,rfl,?_⟩;replace a:=sK a hb;replace HB:=sB HB hb;(try clear hb)))
 go_ret
 exact⟨sq,sb⟩)
 rw[if_neg d]at H
 have c4b0:=zF d
 clear d
 obtain⟨c,s,H⟩:=sO H
 by_cases g:c<0
 ·(
 rw[if_pos g]at H
 have c9b0:=zT g
 clear g
 obtain rfl:=zI H
 go_enter Try.func4,Try.ntmps4
 go_wp2_with (first|((with_reducible refine gate_dst (N:=2) rfl ?_);refine sV (N:=2) (cs:= #[.slice A0_0 l0_0.length c0_0,.slice A0_1 l0_1.length c0_1]) (t:=25) ?_;intro o hg D hbox hb;have a:=zM (hbox);have p:=sG HB hg;have q:=sG HB hg;replace HB:=sB HB hb;clear hb hbox hg;obtain⟨E,F,G,I⟩:=cells2 a.out)|((with_reducible refine gate_callee (f:=9) rfl ?_);refine sC (some 8) Try.func9 #[.slice A0_0 l0_0.length c0_0,.int .i64 a1] (laws_szPatternInsS.calls k _ _ l0_0 a1 b _ ?side1 ?side2 l.out) ?_;(case side1=>exact sD (zC i.out HB.out));(case side2=>exact j.out);rintro e J ⟨rfl,hb⟩;refine⟨_,rfl,?_⟩;replace a:=sK a hb;replace HB:=sB HB hb;(try clear hb);obtain⟨K,L,M,O⟩:=cells2 a.out)|((with_reducible refine gate_callee (f:=10) rfl ?_);refine sC (some 14) Try.func10 #[.slice A0_1 l0_1.length c0_1,.int .i64 b] (laws_szPatternEntryS.calls k _ _ l0_1 b c _ ?side1 ?side2 s.out) ?_;(case side1=>exact sD (zC m.out HB.out));(case side2=>exact n.out);rintro e P ⟨rfl,hb⟩;refine⟨_,rfl,?_⟩;replace a:=sK a hb;replace HB:=sB HB hb;(try clear hb)))
 go_ret
 exact⟨sq,sb⟩)
 rw[if_neg g]at H
 have c9b0:=zF g
 clear g
 obtain rfl:=zI H
 go_enter Try.func4,Try.ntmps4
 go_wp2_with (first|((with_reducible refine gate_dst (N:=2) rfl ?_);refine sV (N:=2) (cs:= #[.slice A0_0 l0_0.length c0_0,.slice A0_1 l0_1.length c0_1]) (t:=25) ?_;intro o hg Q hbox hb;have a:=zM (hbox);have p:=sG HB hg;have q:=sG HB hg;replace HB:=sB HB hb;clear hb hbox hg;obtain⟨R,S,T,U⟩:=cells2 a.out)|((with_reducible refine gate_callee (f:=9) rfl ?_);refine sC (some 8) Try.func9 #[.slice A0_0 l0_0.length c0_0,.int .i64 a1] (laws_szPatternInsS.calls k _ _ l0_0 a1 b _ ?side1 ?side2 l.out) ?_;(case side1=>exact sD (zC i.out HB.out));(case side2=>exact j.out);rintro e V ⟨rfl,hb⟩;refine⟨_,rfl,?_⟩;replace a:=sK a hb;replace HB:=sB HB hb;(try clear hb);obtain⟨W,X,Y,Z⟩:=cells2 a.out)|((with_reducible refine gate_callee (f:=10) rfl ?_);refine sC (some 14) Try.func10 #[.slice A0_1 l0_1.length c0_1,.int .i64 b] (laws_szPatternEntryS.calls k _ _ l0_1 b c _ ?side1 ?side2 s.out) ?_;(case side1=>exact sD (zC m.out HB.out));(case side2=>exact n.out);rintro e aa ⟨rfl,hb⟩;refine⟨_,rfl,?_⟩;replace a:=sK a hb;replace HB:=sB HB hb;(try clear hb)))
 go_ret
 exact⟨sq,sb⟩
end Go.Proofs.Ytcppdkdnpmgpmaa.PFnExactEntryOf
