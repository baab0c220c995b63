/- Printed functions: impl_unless, impl_isIndexed, impl_first, impl_Heap_object. -/
import Derived.Test.YtengilknjiobiaaYGeP0
import Derived.Test.YtengilknjiobiaaYGeP13
import Derived.Test.YtengilknjiobiaaYGeP22
namespace Go.Proofs.Ytengilknjiobiaa.PFnExactGetElement
open Go.RowKit Go.Proofs.YtengilknjiobiaaG Go.Proofs.YtengilknjiobiaaW.PrintWords Go.Proofs.YtengilknjiobiaaW.PrintLast Go.Proofs.YtengilknjiobiaaW.PrintMore
attribute [local go_sem] max2_int min2_int max_two min_two max_three min_three max_four min_four
set_option linter.unusedVariables false
set_option linter.unusedSimpArgs false
def impl_unless.f (a0:Bool) (a1:Int):Option (Int):=if a0=true then(some 0)else(some a1)
set_option maxHeartbeats 8000000 in
set_option maxRecDepth 100000 in
theorem impl_unless.calls (a0:Bool) (a1:Int) (r:Int) (w:World) (h:impl_unless.f a0 a1=some r):
  Calls Try.prog 51 #[.bool a0,.int .i64 a1] w fun e w'=>e= .returned (.int .i64 r)∧Drawn0 w w':=by
 have H:(if a0=true then(some 0)else(some a1))=some r:=h
 clear h
 by_cases a:a0=true
 ·(
 subst a
 rewrite[if_pos rfl]at H
 obtain rfl:=zI H
 go_enter Try.func51,Try.ntmps51
 go_wp2
 go_ret
 exact⟨by first|rfl|(simp;done)|(simp[*];done),by repeat(first|exact Drawn0.refl _|apply Drawn0.step)⟩)
 replace a:=zB a
 subst a
 rewrite[if_neg zQ]at H
 obtain rfl:=zI H
 go_enter Try.func51,Try.ntmps51
 go_wp2
 go_ret
 exact⟨by first|rfl|(simp;done)|(simp[*];done),by repeat(first|exact Drawn0.refl _|apply Drawn0.step)⟩
def impl_isIndexed.f (a0_0:Int) (a0_1:Int) (a0_2:ByteArray) (a0_3:Int):Option (Bool):=if a0_0=4 then(some true)else(some (a0_0==5))
set_option maxHeartbeats 8000000 in
set_option maxRecDepth 100000 in
theorem impl_isIndexed.calls (a0_0:Int) (a0_1:Int) (a0_2:ByteArray) (a0_3:Int) (r:Bool) (w:World) (h:impl_isIndexed.f a0_0 a0_1 a0_2 a0_3=some r):
  Calls Try.prog 52 #[.agg #[.int .i64 a0_0,.int .i64 a0_1,.string a0_2,.int .i64 a0_3]] w fun e w'=>e= .returned (.bool r)∧Below w.heap.size w w':=by
 have i:=Try.underlying29
 have HB:=zM (Below.refl w.heap.size w)
 have H:(if a0_0=4 then(some true)else(some (a0_0==5)))=some r:=h
 clear h
 by_cases a:a0_0=4
 ·(
 rw[if_pos a]at H
 have c2b0:(a0_0==4)=true:=zE a
 have c2b1:(a0_0 !=4)=false:=zY a
 clear a
 obtain rfl:=zI H
 go_enter Try.func52,Try.ntmps52
 go_wp2_with (first|((with_reducible refine gate_dst (N:=1) rfl ?_);refine sV (N:=1) (cs:= #[.int .i64 a0_0,.int .i64 a0_1,.string a0_2,.int .i64 a0_3]) (t:=29) ?_;intro c hg j hbox hb;have b:=zM (hbox);have d:=sG HB hg;have g:=sG HB hg;replace HB:=sB HB hb;clear hb hbox hg;obtain⟨l,m,n,o,p,q,s,u⟩:=cells4 b.out))
 go_ret
 exact⟨sq,sb⟩)
 rw[if_neg a]at H
 have c2b0:(a0_0==4)=false:=zN a
 have c2b1:(a0_0 !=4)=true:=zX a
 obtain rfl:=zI H
 go_enter Try.func52,Try.ntmps52
 go_wp2_with (first|((with_reducible refine gate_dst (N:=1) rfl ?_);refine sV (N:=1) (cs:= #[.int .i64 a0_0,.int .i64 a0_1,.string a0_2,.int .i64 a0_3]) (t:=29) ?_;intro c hg v hbox hb;have b:=zM (hbox);have d:=sG HB hg;have g:=sG HB hg;replace HB:=sB HB hb;clear hb hbox hg;obtain⟨x,y,z,A,B,D,E,F⟩:=cells4 b.out))
 go_ret
 exact⟨sq,sb⟩
def impl_first.l0 : Nat → List Int → Int → Int → Option (Int)
 |0,_,_,_=>none
 |k+1,x5,x6,x7=>if x7<x6 then(if 0≤x7 then(if x7<(x5.length:Int)then(if(rd x5 x7)=0 then(impl_first.l0 k x5 x6 (wrap64 (x7+1)))else(some (rd x5 x7)))else(none))else(none))else(some 0)
def impl_first.f (k:Nat) (l0:List Int):Option (Int):=impl_first.l0 k l0 (l0.length:Int) 0
set_option maxHeartbeats 8000000 in
set_option maxRecDepth 100000 in
theorem impl_first.calls (k:Nat) (A0:Option Addr) (c0:Nat) (l0:List Int) (r:Int) (w:World) (hr0:Kd.C (Kd.int .i64) w A0 l0.length l0) (hc0:l0.length≤c0) (h:impl_first.f k l0=some r):
  Calls Try.prog 50 #[.slice A0 l0.length c0] w fun e w'=>e= .returned (.int .i64 r)∧Drawn0 w w':=by
 have m:=zM hr0
 have s:=zM hc0
 clear hr0 hc0
 have H:(impl_first.l0 k l0 (l0.length:Int) 0)=some r:=h
 clear h
 have H':=zM H
 clear H
 go_enter Try.func50,Try.ntmps50
 go_wp2
 go_loopg [7] k (fun kq o w'=>∃(a:Int),o= .int .i64 a∧Aside0 (impl_first.l0 kq l0 (l0.length:Int) a=some r)∧Aside0 (kq≤k)∧Drawn0 w w')
 case atStart=>exact⟨(0),sr,H',⟨Nat.le_refl _⟩,by repeat(first|exact Drawn0.refl _|apply Drawn0.step)⟩
 case round=>(
 clear H'
 obtain⟨a,rfl,HA,n,⟨u,rfl⟩⟩:=hrel
 cases gk with
 |zero=>exact absurd HA.out (by simp[impl_first.l0])
 |succ k1=>(
 have H:=HA.out
 clear HA
 simp only[impl_first.l0]at H
 by_cases g:a<(l0.length:Int)
 ·(
 rw[if_pos g]at H
 have c2b0:=zT g
 clear g
 by_cases i:0≤a
 ·(
 rw[if_pos i]at H
 have c3b0:=zT i
 clear i
 by_cases j:a<(l0.length:Int)
 ·(
 rw[if_pos j]at H
 have c4b0:=zT j
 clear j
 by_cases b:(rd l0 a)=0
 ·(
 rw[if_pos b]at H
 have c5b0:((rd l0 a)==0)=true:=zE b
 have c5b1:((rd l0 a) !=0)=false:=zY b
 clear b
 have H':=zM H
 clear H
 have c:0≤(a:Int):=zO (by first|(with_reducible assumption)|assumption)
 have d:a<(l0.length:Int):=zO (by first|(with_reducible assumption)|assumption)
 obtain⟨p,l,q⟩:=Kd.at_int m.out a c d
 cases l
 replace c:=eq_true c
 replace d:=eq_true d
 go_wp2
 go_roundg k1
 case measure=>have:=n.out;omega
 case rel=>exact⟨(wrap64 (a+1)),sr,H',⟨by have:=n.out;omega⟩,by repeat(first|exact Drawn0.refl _|apply Drawn0.step)⟩)
 rw[if_neg b]at H
 have c5b0:((rd l0 a)==0)=false:=zN b
 have c5b1:((rd l0 a) !=0)=true:=zX b
 obtain rfl:=zI H
 have c:0≤(a:Int):=zO (by first|(with_reducible assumption)|assumption)
 have d:a<(l0.length:Int):=zO (by first|(with_reducible assumption)|assumption)
 obtain⟨p,l,q⟩:=Kd.at_int m.out a c d
 cases l
 replace c:=eq_true c
 replace d:=eq_true d
 go_wp2
 go_ret
 exact⟨by first|rfl|(simp;done)|(simp[*];done),by repeat(first|exact Drawn0.refl _|apply Drawn0.step)⟩)
 rw[if_neg j]at H
 exact absurd H (by simp))
 rw[if_neg i]at H
 exact absurd H (by simp))
 rw[if_neg g]at H
 have c2b0:=zF g
 clear g
 obtain rfl:=zI H
 go_wp2
 go_ret
 exact⟨by first|rfl|(simp;done)|(simp[*];done),by repeat(first|exact Drawn0.refl _|apply Drawn0.step)⟩))
def impl_Heap_object.f (k:Nat) (a0_0:Int) (l0_1:List (S56)) (a1_0:Int) (a1_1:Int) (a1_2:ByteArray) (a1_3:Int):Option (Int):=(impl_refers.f a1_0).bind fun t386=>(if t386=true then((impl_Heap_find.f k a0_0 l0_1 a1_3).bind fun t387=>(some t387))else(some (-1)))
set_option maxHeartbeats 8000000 in
set_option maxRecDepth 100000 in
theorem impl_Heap_object.calls (k:Nat) (a0_0:Int) (A0_1:Option Addr) (c0_1:Nat) (l0_1:List (S56)) (a1_0:Int) (a1_1:Int) (a1_2:ByteArray) (a1_3:Int) (r:Int) (w:World) (hr0_1:Kd.C k56 w A0_1 l0_1.length l0_1) (hc0_1:l0_1.length≤c0_1) (h:impl_Heap_object.f k a0_0 l0_1 a1_0 a1_1 a1_2 a1_3=some r):
  Calls Try.prog 53 #[.agg #[.int .i64 a0_0,.slice A0_1 l0_1.length c0_1],.agg #[.int .i64 a1_0,.int .i64 a1_1,.string a1_2,.int .i64 a1_3]] w fun e w'=>e= .returned (.int .i64 r)∧Below w.heap.size w w':=by
 have y:=Try.underlying34
 have z:=Try.underlying29
 have o:=zM hr0_1
 have p:=zM hc0_1
 clear hr0_1 hc0_1
 have HB:=zM (Below.refl w.heap.size w)
 have H:((impl_refers.f a1_0).bind fun d=>(if d=true then((impl_Heap_find.f k a0_0 l0_1 a1_3).bind fun g=>(some g))else(some (-1))))=some r:=h
 clear h
 obtain⟨d,l,H⟩:=sO H
 by_cases c:d=true
 ·(
 subst c
 rewrite[if_pos rfl]at H
 obtain⟨g,q,H⟩:=sO H
 obtain rfl:=zI H
 go_enter Try.func53,Try.ntmps53
 go_wp2_with (first|((with_reducible refine gate_dst (N:=2) rfl ?_);refine sV (N:=2) (cs:= #[.int .i64 a0_0,.slice A0_1 l0_1.length c0_1]) (t:=34) ?_;intro s hg A hbox hb;have a:=zM (hbox);have u:=sG HB hg;have m:=sG HB hg;replace HB:=sB HB hb;clear hb hbox hg)|((with_reducible refine gate_dst (N:=3) rfl ?_);refine sV (N:=3) (cs:= #[.int .i64 a1_0,.int .i64 a1_1,.string a1_2,.int .i64 a1_3]) (t:=29) ?_;intro v hg B hbox hb;have b:=zM (hbox);have x:=sG HB hg;have n:=sG HB hg;replace HB:=sB HB hb;have i:=sN a hg;have j:=sM a hg;replace a:=sK a hb;clear hb hbox hg;have D:=j.out;have E:=i.out;obtain⟨F,G,I,J,K,L,M,O⟩:=cells4 b.out)|((with_reducible refine gate_callee (f:=57) rfl ?_);refine sC (some 7) Try.func57 #[.int .i64 a1_0] (impl_refers.calls a1_0 true _ l.out) ?_;rintro e w' ⟨rfl,⟨nd,rfl⟩⟩;refine⟨_,rfl,?_⟩;obtain⟨P,Q,R,S⟩:=cells2 a.out)|((with_reducible refine gate_callee (f:=78) rfl ?_);refine sC (some 12) Try.func78 #[.agg #[.int .i64 a0_0,.slice A0_1 l0_1.length c0_1],.int .i64 a1_3] (impl_Heap_find.calls k a0_0 _ _ l0_1 a1_3 g _ ?side1 ?side2 q.out) ?_;(case side1=>exact sD (zC o.out (by repeat(first|(with_reducible first|exact HB.out|apply below_alloc|apply pw_below_drewN|apply below_drew1|refine below_set ?_ m.out|refine below_set ?_ n.out)|exact HB.out))));(case side2=>exact p.out);rintro e T ⟨rfl,hb⟩;refine⟨_,rfl,?_⟩;replace a:=sK a hb;replace b:=sK b hb;replace HB:=sB HB hb;(try clear hb)))
 go_ret
 exact⟨sq,sb⟩)
 replace c:=zB c
 subst c
 rewrite[if_neg zQ]at H
 obtain rfl:=zI H
 go_enter Try.func53,Try.ntmps53
 go_wp2_with (first|((with_reducible refine gate_dst (N:=2) rfl ?_);refine sV (N:=2) (cs:= #[.int .i64 a0_0,.slice A0_1 l0_1.length c0_1]) (t:=34) ?_;intro s hg U hbox hb;have a:=zM (hbox);have u:=sG HB hg;have m:=sG HB hg;replace HB:=sB HB hb;clear hb hbox hg)|((with_reducible refine gate_dst (N:=3) rfl ?_);refine sV (N:=3) (cs:= #[.int .i64 a1_0,.int .i64 a1_1,.string a1_2,.int .i64 a1_3]) (t:=29) ?_;intro v hg V hbox hb;have b:=zM (hbox);have x:=sG HB hg;have n:=sG HB hg;replace HB:=sB HB hb;have i:=sN a hg;have j:=sM a hg;replace a:=sK a hb;clear hb hbox hg;have W:=j.out;have X:=i.out;obtain⟨Y,Z,aa,ab,ac,ad,ae,af⟩:=cells4 b.out)|((with_reducible refine gate_callee (f:=57) rfl ?_);refine sC (some 7) Try.func57 #[.int .i64 a1_0] (impl_refers.calls a1_0 false _ l.out) ?_;rintro e w' ⟨rfl,⟨nd,rfl⟩⟩;refine⟨_,rfl,?_⟩))
 go_ret
 exact⟨sq,sb⟩
end Go.Proofs.Ytengilknjiobiaa.PFnExactGetElement
