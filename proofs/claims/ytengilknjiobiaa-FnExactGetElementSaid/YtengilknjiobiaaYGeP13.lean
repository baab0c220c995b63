/- Printed functions: spec_l09Indexed, spec_l09Key, impl_within, impl_isObjectId, impl_isLetter, impl_refers. -/
import Derived.Test.YtengilknjiobiaaYGeP0
import Derived.Test.YtengilknjiobiaaYGePE
namespace Go.Proofs.Ytengilknjiobiaa.PFnExactGetElement
open Go.RowKit Go.Proofs.YtengilknjiobiaaG Go.Proofs.YtengilknjiobiaaW.PrintWords Go.Proofs.YtengilknjiobiaaW.PrintLast Go.Proofs.YtengilknjiobiaaW.PrintMore
attribute [local go_sem] max2_int min2_int max_two min_two max_three min_three max_four min_four
set_option linter.unusedVariables false
set_option linter.unusedSimpArgs false
section
attribute [local go_sem high] eqA29
def spec_l09Indexed.f (a0_0:Int) (a0_1:Int) (a0_2:ByteArray) (a0_3:Int):Option (Bool):=if a0_0=4 then(some true)else(some (a0_0==5))
set_option maxHeartbeats 8000000 in
set_option maxRecDepth 100000 in
theorem spec_l09Indexed.calls (a0_0:Int) (a0_1:Int) (a0_2:ByteArray) (a0_3:Int) (r:Bool) (w:World) (h:spec_l09Indexed.f a0_0 a0_1 a0_2 a0_3=some r):
  Calls Try.prog 48 #[.agg #[.int .i64 a0_0,.int .i64 a0_1,.string a0_2,.int .i64 a0_3]] w fun e w'=>e= .returned (.bool r)∧Below w.heap.size w w':=by
 have i:=Try.underlying29
 have HB:=zM (Below.refl w.heap.size w)
 have H:(if a0_0=4 then(some true)else(some (a0_0==5)))=some r:=h
 clear h
 by_cases a:a0_0=4
 ·(
 rw[if_pos a]at H
 have c2b0:(a0_0==4)=true:=zE a
 have c2b1:(a0_0 !=4)=false:=zY a
 clear a
 obtain rfl:=zI H
 go_enter Try.func48,Try.ntmps48
 go_wp2_with (first|((with_reducible refine gate_dst (N:=1) rfl ?_);refine sV (N:=1) (cs:= #[.int .i64 a0_0,.int .i64 a0_1,.string a0_2,.int .i64 a0_3]) (t:=29) ?_;intro c hg j hbox hb;have b:=zM (hbox);have d:=sG HB hg;have g:=sG HB hg;replace HB:=sB HB hb;clear hb hbox hg;obtain⟨l,m,n,o,p,q,s,u⟩:=cells4 b.out))
 go_ret
 exact⟨sq,sb⟩)
 rw[if_neg a]at H
 have c2b0:(a0_0==4)=false:=zN a
 have c2b1:(a0_0 !=4)=true:=zX a
 obtain rfl:=zI H
 go_enter Try.func48,Try.ntmps48
 go_wp2_with (first|((with_reducible refine gate_dst (N:=1) rfl ?_);refine sV (N:=1) (cs:= #[.int .i64 a0_0,.int .i64 a0_1,.string a0_2,.int .i64 a0_3]) (t:=29) ?_;intro c hg v hbox hb;have b:=zM (hbox);have d:=sG HB hg;have g:=sG HB hg;replace HB:=sB HB hb;clear hb hbox hg;obtain⟨x,y,z,A,B,D,E,F⟩:=cells4 b.out))
 go_ret
 exact⟨sq,sb⟩
end
section
attribute [local go_sem high] eqA29
def spec_l09Key.l0 : Nat → List (S29) → Int → Int → Int → ByteArray → Int → Option (Int)
 |0,_,_,_,_,_,_=>none
 |k+1,x0,x5,x238000,x238001,x238002,x238003=>if x5<(x0.length:Int)then(if 0≤x5 then(if(((rd_T29 x0 x5).f0)==x238000&&(((rd_T29 x0 x5).f1)==x238001&&((((rd_T29 x0 x5).f2).toList)==x238002.toList&&(((rd_T29 x0 x5).f3)==x238003))))=true then(some x5)else(spec_l09Key.l0 k x0 (wrap64 (x5+1)) x238000 x238001 x238002 x238003))else(none))else(some (-1))
def spec_l09Key.f (k:Nat) (l0:List (S29)) (a1_0:Int) (a1_1:Int) (a1_2:ByteArray) (a1_3:Int):Option (Int):=spec_l09Key.l0 k l0 0 a1_0 a1_1 a1_2 a1_3
set_option maxHeartbeats 8000000 in
set_option maxRecDepth 100000 in
theorem spec_l09Key.calls (k:Nat) (A0:Option Addr) (c0:Nat) (l0:List (S29)) (a1_0:Int) (a1_1:Int) (a1_2:ByteArray) (a1_3:Int) (r:Int) (w:World) (hr0:Kd.C k29 w A0 l0.length l0) (hc0:l0.length≤c0) (h:spec_l09Key.f k l0 a1_0 a1_1 a1_2 a1_3=some r):
  Calls Try.prog 74 #[.slice A0 l0.length c0,.agg #[.int .i64 a1_0,.int .i64 a1_1,.string a1_2,.int .i64 a1_3]] w fun e w'=>e= .returned (.int .i64 r)∧Below w.heap.size w w':=by
 have B:=Try.underlying29
 have s:=zM hr0
 have D:=zM hc0
 clear hr0 hc0
 have HB:=zM (Below.refl w.heap.size w)
 have H:(spec_l09Key.l0 k l0 0 a1_0 a1_1 a1_2 a1_3)=some r:=h
 clear h
 have H':=zM H
 clear H
 go_enter Try.func74,Try.ntmps74
 go_wp2_with (first|((with_reducible refine gate_dst (N:=3) rfl ?_);refine sV (N:=3) (cs:= #[.int .i64 a1_0,.int .i64 a1_1,.string a1_2,.int .i64 a1_3]) (t:=29) ?_;intro p hg u hbox hb;have c:=zM (hbox);have v:=sG HB hg;have x:=sG HB hg;replace HB:=sB HB hb;clear hb hbox hg))
 repeat(go_quiet (first|((with_reducible refine gate_dst (N:=3) rfl ?_);refine sV (N:=3) (cs:= #[.int .i64 a1_0,.int .i64 a1_1,.string a1_2,.int .i64 a1_3]) (t:=29) ?_;intro p hg u hbox hb;have c:=zM (hbox);have v:=sG HB hg;have x:=sG HB hg;replace HB:=sB HB hb;clear hb hbox hg));try go_wp2_with (first|((with_reducible refine gate_dst (N:=3) rfl ?_);refine sV (N:=3) (cs:= #[.int .i64 a1_0,.int .i64 a1_1,.string a1_2,.int .i64 a1_3]) (t:=29) ?_;intro p hg u hbox hb;have c:=zM (hbox);have v:=sG HB hg;have x:=sG HB hg;replace HB:=sB HB hb;clear hb hbox hg)))
 go_loopg [5] k (fun kq z w'=>∃(a:Int),z= .int .i64 a∧Aside0 (spec_l09Key.l0 kq l0 a a1_0 a1_1 a1_2 a1_3=some r)∧Aside0 (kq≤k)∧Aside0 (w'.heap[p]?=some (.cells #[.int .i64 a1_0,.int .i64 a1_1,.string a1_2,.int .i64 a1_3] 29 (0,0)))∧Aside0 (Below w.heap.size w w'))
 case atStart=>exact⟨(0),sr,H',⟨Nat.le_refl _⟩,⟨by exact sT c.out⟩,⟨sb⟩⟩
 case round=>(
 clear H'
 obtain⟨a,rfl,HA,y,c,HB⟩:=hrel
 cases gk with
 |zero=>exact absurd HA.out (by simp[spec_l09Key.l0])
 |succ k1=>(
 have H:=HA.out
 clear HA
 simp only[spec_l09Key.l0]at H
 by_cases i:a<(l0.length:Int)
 ·(
 rw[if_pos i]at H
 have c4b0:=zT i
 clear i
 by_cases o:0≤a
 ·(
 rw[if_pos o]at H
 have c5b0:=zT o
 clear o
 by_cases b:(((rd_T29 l0 a).f0)==a1_0&&(((rd_T29 l0 a).f1)==a1_1&&((((rd_T29 l0 a).f2).toList)==a1_2.toList&&(((rd_T29 l0 a).f3)==a1_3))))=true
 ·(
 rw[if_pos b]at H
 have c6b0:(((rd_T29 l0 a).f0)==a1_0&&(((rd_T29 l0 a).f1)==a1_1&&((((rd_T29 l0 a).f2).toList)==a1_2.toList&&(((rd_T29 l0 a).f3)==a1_3))))=true:=b
 (try(have c6b1:decide (((rd_T29 l0 a).f0)=a1_0&&(((rd_T29 l0 a).f1)==a1_1&&((((rd_T29 l0 a).f2).toList)==a1_2.toList&&(((rd_T29 l0 a).f3)==a1_3))))=true:=by simpa using b))
 (try(have c6b2:(((rd_T29 l0 a).f0)==a1_0&&(((rd_T29 l0 a).f1)==a1_1&&((((rd_T29 l0 a).f2).toList)==a1_2.toList&&(((rd_T29 l0 a).f3)==a1_3))))=true:=by simpa using b))
 clear b
 obtain rfl:=zI H
 have d:0≤(a:Int):=zO (by first|(with_reducible assumption)|assumption)
 have g:a<(l0.length:Int):=zO (by first|(with_reducible assumption)|assumption)
 obtain⟨A,q,j,l,m,n⟩:=at_T29 s.out a d g
 cases q
 replace j:=sX HB j
 replace l:=sX HB l
 replace m:=sX HB m
 replace n:=sX HB n
 replace d:=eq_true d
 replace g:=eq_true g
 obtain⟨E,F,G,I,J,K,L,M⟩:=cells4 c.out
 go_wp2
 repeat(go_quiet (fail);try go_wp2)
 go_ret
 exact⟨sq,sb⟩)
 rw[if_neg b]at H
 have c6b0:(((rd_T29 l0 a).f0)==a1_0&&(((rd_T29 l0 a).f1)==a1_1&&((((rd_T29 l0 a).f2).toList)==a1_2.toList&&(((rd_T29 l0 a).f3)==a1_3))))=false:=by simpa using b
 (try(have c6b1:decide (((rd_T29 l0 a).f0)=a1_0&&(((rd_T29 l0 a).f1)==a1_1&&((((rd_T29 l0 a).f2).toList)==a1_2.toList&&(((rd_T29 l0 a).f3)==a1_3))))=false:=by simpa using b))
 (try(have c6b2:(((rd_T29 l0 a).f0)==a1_0&&(((rd_T29 l0 a).f1)==a1_1&&((((rd_T29 l0 a).f2).toList)==a1_2.toList&&(((rd_T29 l0 a).f3)==a1_3))))=false:=by simpa using b))
 (try(have c6b3:¬(((rd_T29 l0 a).f0)=a1_0&&(((rd_T29 l0 a).f1)==a1_1&&((((rd_T29 l0 a).f2).toList)==a1_2.toList&&(((rd_T29 l0 a).f3)==a1_3)))):=by simpa using b))
 clear b
 have H':=zM H
 clear H
 have d:0≤(a:Int):=zO (by first|(with_reducible assumption)|assumption)
 have g:a<(l0.length:Int):=zO (by first|(with_reducible assumption)|assumption)
 obtain⟨A,q,j,l,m,n⟩:=at_T29 s.out a d g
 cases q
 replace j:=sX HB j
 replace l:=sX HB l
 replace m:=sX HB m
 replace n:=sX HB n
 replace d:=eq_true d
 replace g:=eq_true g
 obtain⟨O,P,Q,R,S,T,U,V⟩:=cells4 c.out
 go_wp2
 repeat(go_quiet (fail);try go_wp2)
 go_roundg k1
 case measure=>have:=y.out;omega
 case rel=>exact⟨(wrap64 (a+1)),sr,H',⟨by have:=y.out;omega⟩,⟨by exact sT c.out⟩,⟨sb⟩⟩)
 rw[if_neg o]at H
 exact absurd H (by simp))
 rw[if_neg i]at H
 have c4b0:=zF i
 clear i
 obtain rfl:=zI H
 go_wp2
 repeat(go_quiet (fail);try go_wp2)
 go_ret
 exact⟨sq,sb⟩))
end
def impl_within.f (a0:Int) (a1:Int) (a2:Int):Option (Bool):=if a0≥a1 then(some (decide (a0≤a2)))else(some false)
set_option maxHeartbeats 8000000 in
set_option maxRecDepth 100000 in
theorem impl_within.calls (a0:Int) (a1:Int) (a2:Int) (r:Bool) (w:World) (h:impl_within.f a0 a1 a2=some r):
  Calls Try.prog 82 #[.int .i64 a0,.int .i64 a1,.int .i64 a2] w fun e w'=>e= .returned (.bool r)∧Drawn0 w w':=by
 have H:(if a0≥a1 then(some (decide (a0≤a2)))else(some false))=some r:=h
 clear h
 by_cases a:a0≥a1
 ·(
 rw[if_pos a]at H
 have c4b0:decide (a1≤a0)=true:=zT a
 clear a
 obtain rfl:=zI H
 go_enter Try.func82,Try.ntmps82
 go_wp2
 go_ret
 exact⟨by first|rfl|(simp;done)|(simp[*];done),by repeat(first|exact Drawn0.refl _|apply Drawn0.step)⟩)
 rw[if_neg a]at H
 have c4b0:decide (a1≤a0)=false:=zF a
 clear a
 obtain rfl:=zI H
 go_enter Try.func82,Try.ntmps82
 go_wp2
 go_ret
 exact⟨by first|rfl|(simp;done)|(simp[*];done),by repeat(first|exact Drawn0.refl _|apply Drawn0.step)⟩
def impl_isObjectId.f (a0:Int):Option (Bool):=(impl_within.f a0 1 1000000).bind fun t262=>(some t262)
set_option maxHeartbeats 8000000 in
set_option maxRecDepth 100000 in
theorem impl_isObjectId.calls (a0:Int) (r:Bool) (w:World) (h:impl_isObjectId.f a0=some r):
  Calls Try.prog 88 #[.int .i64 a0] w fun e w'=>e= .returned (.bool r)∧Drawn0 w w':=by
 have H:((impl_within.f a0 1 1000000).bind fun a=>(some a))=some r:=h
 clear h
 obtain⟨a,b,H⟩:=sO H
 obtain rfl:=zI H
 go_enter Try.func88,Try.ntmps88
 go_wp2_with (first|((with_reducible refine gate_callee (f:=82) rfl ?_);refine sC (some 4) Try.func82 #[.int .i64 a0,.int .i64 1,.int .i64 1000000] (impl_within.calls a0 1 1000000 a _ b.out) ?_;rintro e w' ⟨rfl,⟨nd,rfl⟩⟩;refine⟨_,rfl,?_⟩))
 go_ret
 exact⟨by first|rfl|(simp;done)|(simp[*];done),by repeat(first|exact Drawn0.refl _|apply Drawn0.step)⟩
section
attribute [local go_sem high] eqA29
def impl_isLetter.f (a0:Int):Option (Bool):=if a0≥65 then(if a0≤90 then(some true)else(if a0≥97 then(some (decide (a0≤122)))else(some false)))else(if a0≥97 then(some (decide (a0≤122)))else(some false))
set_option maxHeartbeats 8000000 in
set_option maxRecDepth 100000 in
theorem impl_isLetter.calls (a0:Int) (r:Bool) (w:World) (h:impl_isLetter.f a0=some r):
  Calls Try.prog 114 #[.int .u8 a0] w fun e w'=>e= .returned (.bool r)∧Drawn0 w w':=by
 have H:(if a0≥65 then(if a0≤90 then(some true)else(if a0≥97 then(some (decide (a0≤122)))else(some false)))else(if a0≥97 then(some (decide (a0≤122)))else(some false)))=some r:=h
 clear h
 by_cases a:a0≥65
 ·(
 rw[if_pos a]at H
 have c2b0:decide (65≤a0)=true:=zT a
 clear a
 by_cases b:a0≤90
 ·(
 rw[if_pos b]at H
 have c3b0:=zT b
 clear b
 obtain rfl:=zI H
 go_enter Try.func114,Try.ntmps114
 go_wp2
 go_ret
 exact⟨by first|rfl|(simp;done)|(simp[*];done),by repeat(first|exact Drawn0.refl _|apply Drawn0.step)⟩)
 rw[if_neg b]at H
 have c3b0:=zF b
 clear b
 by_cases c:a0≥97
 ·(
 rw[if_pos c]at H
 have c4b0:decide (97≤a0)=true:=zT c
 clear c
 obtain rfl:=zI H
 go_enter Try.func114,Try.ntmps114
 go_wp2
 go_ret
 exact⟨by first|rfl|(simp;done)|(simp[*];done),by repeat(first|exact Drawn0.refl _|apply Drawn0.step)⟩)
 rw[if_neg c]at H
 have c4b0:decide (97≤a0)=false:=zF c
 clear c
 obtain rfl:=zI H
 go_enter Try.func114,Try.ntmps114
 go_wp2
 go_ret
 exact⟨by first|rfl|(simp;done)|(simp[*];done),by repeat(first|exact Drawn0.refl _|apply Drawn0.step)⟩)
 rw[if_neg a]at H
 have c2b0:decide (65≤a0)=false:=zF a
 clear a
 by_cases d:a0≥97
 ·(
 rw[if_pos d]at H
 have c5b0:decide (97≤a0)=true:=zT d
 clear d
 obtain rfl:=zI H
 go_enter Try.func114,Try.ntmps114
 go_wp2
 go_ret
 exact⟨by first|rfl|(simp;done)|(simp[*];done),by repeat(first|exact Drawn0.refl _|apply Drawn0.step)⟩)
 rw[if_neg d]at H
 have c5b0:decide (97≤a0)=false:=zF d
 clear d
 obtain rfl:=zI H
 go_enter Try.func114,Try.ntmps114
 go_wp2
 go_ret
 exact⟨by first|rfl|(simp;done)|(simp[*];done),by repeat(first|exact Drawn0.refl _|apply Drawn0.step)⟩
end
section
attribute [local go_sem high] eqA29
def impl_refers.f (a0:Int):Option (Bool):=(impl_within.f a0 4 6).bind fun t338=>(some t338)
set_option maxHeartbeats 8000000 in
set_option maxRecDepth 100000 in
theorem impl_refers.calls (a0:Int) (r:Bool) (w:World) (h:impl_refers.f a0=some r):
  Calls Try.prog 57 #[.int .i64 a0] w fun e w'=>e= .returned (.bool r)∧Drawn0 w w':=by
 have H:((impl_within.f a0 4 6).bind fun a=>(some a))=some r:=h
 clear h
 obtain⟨a,b,H⟩:=sO H
 obtain rfl:=zI H
 go_enter Try.func57,Try.ntmps57
 go_wp2_with (first|((with_reducible refine gate_callee (f:=82) rfl ?_);refine sC (some 4) Try.func82 #[.int .i64 a0,.int .i64 4,.int .i64 6] (impl_within.calls a0 4 6 a _ b.out) ?_;rintro e w' ⟨rfl,⟨nd,rfl⟩⟩;refine⟨_,rfl,?_⟩))
 go_ret
 exact⟨by first|rfl|(simp;done)|(simp[*];done),by repeat(first|exact Drawn0.refl _|apply Drawn0.step)⟩
end
end Go.Proofs.Ytengilknjiobiaa.PFnExactGetElement
