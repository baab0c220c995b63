/- Printed functions: spec_ValidPatternCode, spec_EntryOf, laws_FnExactEntryOf. -/
import Derived.Test.YtcppdkdnpmgpmaaYEoP0
import Derived.Test.YtcppdkdnpmgpmaaYEoP1
import Derived.Test.YtcppdkdnpmgpmaaYEoP4
import Derived.Test.YtcppdkdnpmgpmaaYEoP5
import Derived.Test.YtcppdkdnpmgpmaaYEoP8
import Derived.Test.YtcppdkdnpmgpmaaYEoP10
import Derived.Test.YtcppdkdnpmgpmaaYEoP23
import Derived.Test.YtcppdkdnpmgpmaaYEoP26
namespace Go.Proofs.Ytcppdkdnpmgpmaa.PFnExactEntryOf
open Go.RowKit Go.Proofs.YtcppdkdnpmgpmaaG Go.Proofs.YtcppdkdnpmgpmaaW.PrintWords Go.Proofs.YtcppdkdnpmgpmaaW.PrintLast Go.Proofs.YtcppdkdnpmgpmaaW.PrintMore
attribute [local go_sem] max2_int min2_int max_two min_two max_three min_three max_four min_four
set_option linter.unusedVariables false
set_option linter.unusedSimpArgs false
def spec_ValidPatternCode.f (k:Nat) (l0_0:List (S55)) (l0_1:List (S51)):Option (Bool):=(spec_l13Shape.f k l0_0 l0_1).bind fun t233=>(if t233=true then((spec_l13Marks.f k l0_0 l0_1).bind fun bt234=>(some bt234.2))else(some false))
set_option maxHeartbeats 8000000 in
set_option maxRecDepth 100000 in
theorem spec_ValidPatternCode.calls (k:Nat) (A0_0:Option Addr) (c0_0:Nat) (l0_0:List (S55)) (A0_1:Option Addr) (c0_1:Nat) (l0_1:List (S51)) (r:Bool) (w:World) (hr0_0:Kd.C k55 w A0_0 l0_0.length l0_0) (hc0_0:l0_0.length≤c0_0) (hr0_1:Kd.C k51 w A0_1 l0_1.length l0_1) (hc0_1:l0_1.length≤c0_1) (h:spec_ValidPatternCode.f k l0_0 l0_1=some r):
  Calls Try.prog 12 #[.agg #[.slice A0_0 l0_0.length c0_0,.slice A0_1 l0_1.length c0_1]] w fun e w'=>e= .returned (.bool r)∧Below w.heap.size w w':=by
 have F:=Try.underlying32
 have d:=zM hr0_0
 have j:=zM hc0_0
 clear hr0_0 hc0_0
 have l:=zM hr0_1
 have m:=zM hc0_1
 clear hr0_1 hc0_1
 have HB:=zM (Below.refl w.heap.size w)
 have H:((spec_l13Shape.f k l0_0 l0_1).bind fun p=>(if p=true then((spec_l13Marks.f k l0_0 l0_1).bind fun z=>(some z.2))else(some false)))=some r:=h
 clear h
 obtain⟨p,q,H⟩:=sO H
 by_cases b:p=true
 ·(
 subst b
 rewrite[if_pos rfl]at H
 replace H:=Option.bind_eq_some_iff.mp H
 obtain⟨⟨A,s⟩,u,H⟩:=H
 replace H:(some s)=some r:=H
 have B:=zM u
 clear u
 obtain rfl:=zI H
 go_enter Try.func12,Try.ntmps12
 go_wp2_with (first|((with_reducible refine gate_dst (N:=1) rfl ?_);refine sV (N:=1) (cs:= #[.slice A0_0 l0_0.length c0_0,.slice A0_1 l0_1.length c0_1]) (t:=32) ?_;intro D hg G hbox hb;have a:=zM (hbox);have E:=sG HB hg;have x:=sG HB hg;replace HB:=sB HB hb;clear hb hbox hg;obtain⟨I,J,L,M⟩:=cells2 a.out)|((with_reducible refine gate_callee (f:=21) rfl ?_);refine sC (some 6) Try.func21 #[.agg #[.slice A0_0 l0_0.length c0_0,.slice A0_1 l0_1.length c0_1]] (spec_l13Shape.calls k _ _ l0_0 _ _ l0_1 true _ ?side1 ?side2 ?side3 ?side4 q.out) ?_;(case side1=>exact sD (zC d.out HB.out));(case side2=>exact j.out);(case side3=>exact sD (zC l.out HB.out));(case side4=>exact m.out);rintro e O ⟨rfl,hb⟩;refine⟨_,rfl,?_⟩;replace a:=sK a hb;replace HB:=sB HB hb;(try clear hb);obtain⟨P,Q,T,U⟩:=cells2 a.out)|((with_reducible refine gate_callee (f:=22) rfl ?_);refine sC (some 10) Try.func22 #[.agg #[.slice A0_0 l0_0.length c0_0,.slice A0_1 l0_1.length c0_1]] (spec_l13Marks.calls k _ _ l0_0 _ _ l0_1 A s _ ?side1 ?side2 ?side3 ?side4 B.out) ?_;(case side1=>exact sD (zC d.out HB.out));(case side2=>exact j.out);(case side3=>exact sD (zC l.out HB.out));(case side4=>exact m.out);rintro e V ⟨W,rfl,y,hb⟩;refine⟨_,rfl,?_⟩;have X:=zM (Kd.R_lower y (below_size zzR));replace a:=sK a hb;replace HB:=sB HB hb;(try clear hb);(try clear y)))
 go_ret
 exact⟨sq,sb⟩)
 replace b:=zB b
 subst b
 rewrite[if_neg zQ]at H
 obtain rfl:=zI H
 go_enter Try.func12,Try.ntmps12
 go_wp2_with (first|((with_reducible refine gate_dst (N:=1) rfl ?_);refine sV (N:=1) (cs:= #[.slice A0_0 l0_0.length c0_0,.slice A0_1 l0_1.length c0_1]) (t:=32) ?_;intro D hg Y hbox hb;have a:=zM (hbox);have E:=sG HB hg;have x:=sG HB hg;replace HB:=sB HB hb;clear hb hbox hg;obtain⟨Z,aa,ab,ac⟩:=cells2 a.out)|((with_reducible refine gate_callee (f:=21) rfl ?_);refine sC (some 6) Try.func21 #[.agg #[.slice A0_0 l0_0.length c0_0,.slice A0_1 l0_1.length c0_1]] (spec_l13Shape.calls k _ _ l0_0 _ _ l0_1 false _ ?side1 ?side2 ?side3 ?side4 q.out) ?_;(case side1=>exact sD (zC d.out HB.out));(case side2=>exact j.out);(case side3=>exact sD (zC l.out HB.out));(case side4=>exact m.out);rintro e ad ⟨rfl,hb⟩;refine⟨_,rfl,?_⟩;replace a:=sK a hb;replace HB:=sB HB hb;(try clear hb)))
 go_ret
 exact⟨sq,sb⟩
def spec_EntryOf.f (k:Nat) (l0_0:List (S55)) (l0_1:List (S51)) (a1:ByteArray):Option (Int×Bool):=(spec_l13Entry.f k l0_0 l0_1 a1).bind fun t239=>(if t239<0 then(some (0,false))else((spec_ValidPatternCode.f k l0_0 l0_1).bind fun t240=>(if t240=true then(some (t239,true))else(some (0,false)))))
set_option maxHeartbeats 8000000 in
set_option maxRecDepth 100000 in
theorem spec_EntryOf.calls (k:Nat) (A0_0:Option Addr) (c0_0:Nat) (l0_0:List (S55)) (A0_1:Option Addr) (c0_1:Nat) (l0_1:List (S51)) (a1:ByteArray) (r1:Int) (r2:Bool) (w:World) (hr0_0:Kd.C k55 w A0_0 l0_0.length l0_0) (hc0_0:l0_0.length≤c0_0) (hr0_1:Kd.C k51 w A0_1 l0_1.length l0_1) (hc0_1:l0_1.length≤c0_1) (h:spec_EntryOf.f k l0_0 l0_1 a1=some (r1,r2)):
  Calls Try.prog 5 #[.agg #[.slice A0_0 l0_0.length c0_0,.slice A0_1 l0_1.length c0_1],.string a1] w fun e w'=>e= .returned (.tuple #[.int .i64 r1,.bool r2])∧Below w.heap.size w w':=by
 have B:=Try.underlying32
 have j:=zM hr0_0
 have l:=zM hc0_0
 clear hr0_0 hc0_0
 have m:=zM hr0_1
 have p:=zM hc0_1
 clear hr0_1 hc0_1
 have HB:=zM (Below.refl w.heap.size w)
 have H:((spec_l13Entry.f k l0_0 l0_1 a1).bind fun b=>(if b<0 then(some (0,false))else((spec_ValidPatternCode.f k l0_0 l0_1).bind fun s=>(if s=true then(some (b,true))else(some (0,false))))))=some (r1,r2):=h
 clear h
 obtain⟨b,u,H⟩:=sO H
 by_cases d:b<0
 ·(
 rw[if_pos d]at H
 have c4b0:=zT d
 clear d
 simp only[Option.some.injEq,Prod.mk.injEq]at H
 obtain⟨rfl,rfl⟩:=H
 go_enter Try.func5,Try.ntmps5
 go_wp2_with (first|((with_reducible refine gate_dst (N:=2) rfl ?_);refine sV (N:=2) (cs:= #[.slice A0_0 l0_0.length c0_0,.slice A0_1 l0_1.length c0_1]) (t:=32) ?_;intro x hg D hbox hb;have a:=zM (hbox);have y:=sG HB hg;have z:=sG HB hg;replace HB:=sB HB hb;clear hb hbox hg;obtain⟨E,F,G,I⟩:=cells2 a.out)|((with_reducible refine gate_callee (f:=11) rfl ?_);refine sC (some 9) Try.func11 #[.agg #[.slice A0_0 l0_0.length c0_0,.slice A0_1 l0_1.length c0_1],.string a1] (spec_l13Entry.calls k _ _ l0_0 _ _ l0_1 a1 b _ ?side1 ?side2 ?side3 ?side4 u.out) ?_;(case side1=>exact sD (zC j.out HB.out));(case side2=>exact l.out);(case side3=>exact sD (zC m.out HB.out));(case side4=>exact p.out);rintro e J ⟨rfl,hb⟩;refine⟨_,rfl,?_⟩;replace a:=sK a hb;replace HB:=sB HB hb;(try clear hb)))
 go_ret2
 exact⟨sq,sb⟩)
 rw[if_neg d]at H
 have c4b0:=zF d
 clear d
 obtain⟨s,A,H⟩:=sO H
 by_cases q:s=true
 ·(
 subst q
 rewrite[if_pos rfl]at H
 simp only[Option.some.injEq,Prod.mk.injEq]at H
 obtain⟨rfl,rfl⟩:=H
 go_enter Try.func5,Try.ntmps5
 go_wp2_with (first|((with_reducible refine gate_dst (N:=2) rfl ?_);refine sV (N:=2) (cs:= #[.slice A0_0 l0_0.length c0_0,.slice A0_1 l0_1.length c0_1]) (t:=32) ?_;intro x hg L hbox hb;have a:=zM (hbox);have y:=sG HB hg;have z:=sG HB hg;replace HB:=sB HB hb;clear hb hbox hg;obtain⟨M,O,P,Q⟩:=cells2 a.out)|((with_reducible refine gate_callee (f:=11) rfl ?_);refine sC (some 9) Try.func11 #[.agg #[.slice A0_0 l0_0.length c0_0,.slice A0_1 l0_1.length c0_1],.string a1] (spec_l13Entry.calls k _ _ l0_0 _ _ l0_1 a1 b _ ?side1 ?side2 ?side3 ?side4 u.out) ?_;(case side1=>exact sD (zC j.out HB.out));(case side2=>exact l.out);(case side3=>exact sD (zC m.out HB.out));(case side4=>exact p.out);rintro e T ⟨rfl,hb⟩;refine⟨_,rfl,?_⟩;replace a:=sK a hb;replace HB:=sB HB hb;(try clear hb);obtain⟨U,V,W,X⟩:=cells2 a.out)|(go_at_call 12;(with_reducible refine(spec_ValidPatternCode.calls k _ _ l0_0 _ _ l0_1 true _ ?side1 ?side2 ?side3 ?side4 A.out).mono ?_);(case side1=>exact sD (zC j.out HB.out));(case side2=>exact l.out);(case side3=>exact sD (zC m.out HB.out));(case side4=>exact p.out);rintro e Y ⟨rfl,hb⟩;replace a:=sK a hb;replace HB:=sB HB hb;(try clear hb)))
 go_ret2
 exact⟨sq,sb⟩)
 replace q:=zB q
 subst q
 rewrite[if_neg zQ]at H
 simp only[Option.some.injEq,Prod.mk.injEq]at H
 obtain⟨rfl,rfl⟩:=H
 go_enter Try.func5,Try.ntmps5
 go_wp2_with (first|((with_reducible refine gate_dst (N:=2) rfl ?_);refine sV (N:=2) (cs:= #[.slice A0_0 l0_0.length c0_0,.slice A0_1 l0_1.length c0_1]) (t:=32) ?_;intro x hg Z hbox hb;have a:=zM (hbox);have y:=sG HB hg;have z:=sG HB hg;replace HB:=sB HB hb;clear hb hbox hg;obtain⟨aa,ab,ac,ad⟩:=cells2 a.out)|((with_reducible refine gate_callee (f:=11) rfl ?_);refine sC (some 9) Try.func11 #[.agg #[.slice A0_0 l0_0.length c0_0,.slice A0_1 l0_1.length c0_1],.string a1] (spec_l13Entry.calls k _ _ l0_0 _ _ l0_1 a1 b _ ?side1 ?side2 ?side3 ?side4 u.out) ?_;(case side1=>exact sD (zC j.out HB.out));(case side2=>exact l.out);(case side3=>exact sD (zC m.out HB.out));(case side4=>exact p.out);rintro e ae ⟨rfl,hb⟩;refine⟨_,rfl,?_⟩;replace a:=sK a hb;replace HB:=sB HB hb;(try clear hb);obtain⟨af,ag,ah,ai⟩:=cells2 a.out)|(go_at_call 12;(with_reducible refine(spec_ValidPatternCode.calls k _ _ l0_0 _ _ l0_1 false _ ?side1 ?side2 ?side3 ?side4 A.out).mono ?_);(case side1=>exact sD (zC j.out HB.out));(case side2=>exact l.out);(case side3=>exact sD (zC m.out HB.out));(case side4=>exact p.out);rintro e aj ⟨rfl,hb⟩;replace a:=sK a hb;replace HB:=sB HB hb;(try clear hb)))
 go_ret2
 exact⟨sq,sb⟩
def laws_FnExactEntryOf.j0 : Nat → Bool → List (S47) → List (S50) → List (S55) → List (S51) → Option (Bool)
 |0,_,_,_,_,_=>none
 |k+1,x41,x406000,x406001,x422000,x422001=>if x41=true then(some false)else((laws_toPatternCode.f k x406000 x406001).bind fun bt424=>((laws_eqPatternCode.f k x422000 x422001 bt424.1 bt424.2).bind fun t430=>(if t430=true then(some true)else(some false))))
def laws_FnExactEntryOf.f (k:Nat) (l0_0:List (S47)) (l0_1:List (S50)) (a1:ByteArray):Option (Bool):=if(a1.size:Int)>1048576 then(some true)else((laws_szPatternCode.f k l0_0 l0_1 1048576).bind fun t406=>(if t406<0 then(some true)else((laws_toPatternCode.f k l0_0 l0_1).bind fun bt407=>((spec_EntryOf.f k bt407.1 bt407.2 a1).bind fun bt413=>((laws_toPatternCode.f k l0_0 l0_1).bind fun bt415=>((impl_EntryOf.f k bt415.1 bt415.2 a1).bind fun bt422=>(if bt422.1=bt413.1 then(laws_FnExactEntryOf.j0 k (bt422.2 !=bt413.2) l0_0 l0_1 bt415.1 bt415.2)else(laws_FnExactEntryOf.j0 k true l0_0 l0_1 bt415.1 bt415.2))))))))
set_option maxHeartbeats 8000000 in
set_option maxRecDepth 100000 in
theorem laws_FnExactEntryOf.calls (k:Nat) (A0_0:Option Addr) (c0_0:Nat) (l0_0:List (S47)) (A0_1:Option Addr) (c0_1:Nat) (l0_1:List (S50)) (a1:ByteArray) (w:World) (hr0_0:Kd.C k47 w A0_0 l0_0.length l0_0) (hc0_0:l0_0.length≤c0_0) (hr0_1:Kd.C k50 w A0_1 l0_1.length l0_1) (hc0_1:l0_1.length≤c0_1) (h:laws_FnExactEntryOf.f k l0_0 l0_1 a1=some true):
  Calls Try.prog 3 #[.agg #[.slice A0_0 l0_0.length c0_0,.slice A0_1 l0_1.length c0_1],.string a1] w fun e w'=>e= .returned (.bool true)∧Below w.heap.size w w':=by
 have bn:=Try.underlying25
 have bo:=Try.underlying32
 have U:=zM hr0_0
 have V:=zM hc0_0
 clear hr0_0 hc0_0
 have W:=zM hr0_1
 have X:=zM hc0_1
 clear hr0_1 hc0_1
 have HB:=zM (Below.refl w.heap.size w)
 have H:(if(a1.size:Int)>1048576 then(some true)else((laws_szPatternCode.f k l0_0 l0_1 1048576).bind fun Y=>(if Y<0 then(some true)else((laws_toPatternCode.f k l0_0 l0_1).bind fun av=>((spec_EntryOf.f k av.1 av.2 a1).bind fun Z=>((laws_toPatternCode.f k l0_0 l0_1).bind fun d=>((impl_EntryOf.f k d.1 d.2 a1).bind fun q=>(if q.1=Z.1 then(laws_FnExactEntryOf.j0 k (q.2 !=Z.2) l0_0 l0_1 d.1 d.2)else(laws_FnExactEntryOf.j0 k true l0_0 l0_1 d.1 d.2)))))))))=some true:=h
 clear h
 by_cases G:(a1.size:Int)>1048576
 ·(
 rw[if_pos G]at H
 have c3b0:decide (1048576<(a1.size:Int))=true:=zT G
 have c3b1:decide (1048576<a1.size)=true:=zT (by omega)
 clear G
 clear H
 go_enter Try.func3,Try.ntmps3
 go_wp2_with (first|((with_reducible refine gate_dst (N:=2) rfl ?_);refine sV (N:=2) (cs:= #[.slice A0_0 l0_0.length c0_0,.slice A0_1 l0_1.length c0_1]) (t:=25) ?_;intro P hg w4 hbox hb;have a:=zM (hbox);have aw:=sG HB hg;have F:=sG HB hg;replace HB:=sB HB hb;clear hb hbox hg))
 go_ret
 exact⟨sq,sb⟩)
 rw[if_neg G]at H
 have c3b0:decide (1048576<(a1.size:Int))=false:=zF G
 have c3b1:decide (1048576<a1.size)=false:=zF (by omega)
 clear G
 obtain⟨Y,A5,H⟩:=sO H
 by_cases I:Y<0
 ·(
 rw[if_pos I]at H
 have c6b0:=zT I
 clear I
 clear H
 go_enter Try.func3,Try.ntmps3
 go_wp2_with (first|((with_reducible refine gate_dst (N:=2) rfl ?_);refine sV (N:=2) (cs:= #[.slice A0_0 l0_0.length c0_0,.slice A0_1 l0_1.length c0_1]) (t:=25) ?_;intro P hg w7 hbox hb;have a:=zM (hbox);have aw:=sG HB hg;have F:=sG HB hg;replace HB:=sB HB hb;clear hb hbox hg;obtain⟨bp,bq,br,bs⟩:=cells2 a.out)|((with_reducible refine gate_callee (f:=4) rfl ?_);refine sC (some 16) Try.func4 #[.agg #[.slice A0_0 l0_0.length c0_0,.slice A0_1 l0_1.length c0_1],.int .i64 1048576] (laws_szPatternCode.calls k _ _ l0_0 _ _ l0_1 1048576 Y _ ?side1 ?side2 ?side3 ?side4 A5.out) ?_;(case side1=>exact sD (zC U.out HB.out));(case side2=>exact V.out);(case side3=>exact sD (zC W.out HB.out));(case side4=>exact X.out);rintro e w9 ⟨rfl,hb⟩;refine⟨_,rfl,?_⟩;replace a:=sK a hb;replace HB:=sB HB hb;(try clear hb)))
 go_ret
 exact⟨sq,sb⟩)
 rw[if_neg I]at H
 have c6b0:=zF I
 clear I
 replace H:=Option.bind_eq_some_iff.mp H
 obtain⟨⟨aa,ab⟩,ax,H⟩:=H
 replace H:((spec_EntryOf.f k aa ab a1).bind fun Z=>((laws_toPatternCode.f k l0_0 l0_1).bind fun d=>((impl_EntryOf.f k d.1 d.2 a1).bind fun q=>(if q.1=Z.1 then(laws_FnExactEntryOf.j0 k (q.2 !=Z.2) l0_0 l0_1 d.1 d.2)else(laws_FnExactEntryOf.j0 k true l0_0 l0_1 d.1 d.2)))))=some true:=H
 have aQ:=zM ax
 clear ax
 replace H:=Option.bind_eq_some_iff.mp H
 obtain⟨⟨E,ac⟩,ay,H⟩:=H
 replace H:((laws_toPatternCode.f k l0_0 l0_1).bind fun d=>((impl_EntryOf.f k d.1 d.2 a1).bind fun q=>(if q.1=E then(laws_FnExactEntryOf.j0 k (q.2 !=ac) l0_0 l0_1 d.1 d.2)else(laws_FnExactEntryOf.j0 k true l0_0 l0_1 d.1 d.2))))=some true:=H
 have aR:=zM ay
 clear ay
 replace H:=Option.bind_eq_some_iff.mp H
 obtain⟨⟨j,l⟩,az,H⟩:=H
 replace H:((impl_EntryOf.f k j l a1).bind fun q=>(if q.1=E then(laws_FnExactEntryOf.j0 k (q.2 !=ac) l0_0 l0_1 j l)else(laws_FnExactEntryOf.j0 k true l0_0 l0_1 j l)))=some true:=H
 have aS:=zM az
 clear az
 replace H:=Option.bind_eq_some_iff.mp H
 obtain⟨⟨J,am⟩,aA,H⟩:=H
 replace H:(if J=E then(laws_FnExactEntryOf.j0 k (am !=ac) l0_0 l0_1 j l)else(laws_FnExactEntryOf.j0 k true l0_0 l0_1 j l))=some true:=H
 have aT:=zM aA
 clear aA
 have an:=zM H
 clear H
 go_enter Try.func3,Try.ntmps3
 go_upto_region 10 with(first|((with_reducible refine gate_dst (N:=2) rfl ?_);refine sV (N:=2) (cs:= #[.slice A0_0 l0_0.length c0_0,.slice A0_1 l0_1.length c0_1]) (t:=25) ?_;intro P hg bt hbox hb;have a:=zM (hbox);have aw:=sG HB hg;have F:=sG HB hg;replace HB:=sB HB hb;clear hb hbox hg;obtain⟨aU,aV,aW,aX⟩:=cells2 a.out)|((with_reducible refine gate_callee (f:=4) rfl ?_);refine sC (some 16) Try.func4 #[.agg #[.slice A0_0 l0_0.length c0_0,.slice A0_1 l0_1.length c0_1],.int .i64 1048576] (laws_szPatternCode.calls k _ _ l0_0 _ _ l0_1 1048576 Y _ ?side1 ?side2 ?side3 ?side4 A5.out) ?_;(case side1=>exact sD (zC U.out HB.out));(case side2=>exact V.out);(case side3=>exact sD (zC W.out HB.out));(case side4=>exact X.out);rintro e bu ⟨rfl,hb⟩;refine⟨_,rfl,?_⟩;replace a:=sK a hb;replace HB:=sB HB hb;(try clear hb);obtain⟨aY,aZ,a0,a2⟩:=cells2 a.out)|((with_reducible refine gate_callee (f:=6) rfl ?_);refine sC (some 21) Try.func6 #[.agg #[.slice A0_0 l0_0.length c0_0,.slice A0_1 l0_1.length c0_1]] (laws_toPatternCode.calls k _ _ l0_0 _ _ l0_1 aa ab _ ?side1 ?side2 ?side3 ?side4 aQ.out) ?_;(case side1=>exact sD (zC U.out HB.out));(case side2=>exact V.out);(case side3=>exact sD (zC W.out HB.out));(case side4=>exact X.out);rintro e bv ⟨bw,bx,rfl,u,x,hb⟩;refine⟨_,rfl,?_⟩;have m:=zM (Kd.R_lower u (below_size zzR));have p:=zM (Kd.R_lower x (below_size zzR));replace a:=sK a hb;replace HB:=sB HB hb;(try clear hb);(try clear u);(try clear x);obtain⟨aB,aC,a3⟩:=Kd.R_slice m.out;subst a3;obtain⟨aD,aE,a4⟩:=Kd.R_slice p.out;subst a4)|((with_reducible refine gate_callee (f:=5) rfl ?_);refine sC (some 23) Try.func5 #[.agg #[.slice aB aa.length aC,.slice aD ab.length aE],.string a1] (spec_EntryOf.calls k _ _ aa _ _ ab a1 E ac _ ?side1 ?side2 ?side3 ?side4 aR.out) ?_;(case side1=>exact sD ((Kd.R_reads' m.out).2.2));(case side2=>exact(Kd.R_reads' m.out).2.1);(case side3=>exact sD ((Kd.R_reads' p.out).2.2));(case side4=>exact(Kd.R_reads' p.out).2.1);rintro e bz ⟨rfl,hb⟩;refine⟨_,rfl,?_⟩;replace m:=zM (Kd.R_below (sE m.out) hb);replace p:=zM (Kd.R_below (sE p.out) hb);replace a:=sK a hb;replace HB:=sB HB hb;(try clear hb);obtain⟨a5,a6,a7,a8⟩:=cells2 a.out)|((with_reducible refine gate_callee (f:=6) rfl ?_);refine sC (some 27) Try.func6 #[.agg #[.slice A0_0 l0_0.length c0_0,.slice A0_1 l0_1.length c0_1]] (laws_toPatternCode.calls k _ _ l0_0 _ _ l0_1 j l _ ?side1 ?side2 ?side3 ?side4 aS.out) ?_;(case side1=>exact sD (zC U.out HB.out));(case side2=>exact V.out);(case side3=>exact sD (zC W.out HB.out));(case side4=>exact X.out);rintro e bA ⟨bB,bC,rfl,u,x,hb⟩;refine⟨_,rfl,?_⟩;have y:=zM (Kd.R_lower (Kd.R_new' u (Kd.R_lt (sE m.out))) (below_size zzR));replace m:=zM (Kd.R_elder' (sE m.out) (Kd.R_base u) hb);have z:=zM (Kd.R_lower (Kd.R_new' x (Kd.R_lt (sE p.out))) (below_size zzR));replace p:=zM (Kd.R_elder' (sE p.out) (Kd.R_base x) hb);replace a:=sK a hb;replace HB:=sB HB hb;(try clear hb);(try clear u);(try clear x))|((with_reducible refine gate_dst (N:=8) rfl ?_);refine sV (N:=8) (cs:= #[.slice none 0 0,.slice none 0 0]) (t:=32) ?_;intro A hg bD hbox hb;replace m:=zM (Kd.R_below (sE m.out) hb);replace p:=zM (Kd.R_below (sE p.out) hb);replace y:=zM (Kd.R_below (sE y.out) hb);replace z:=zM (Kd.R_below (sE z.out) hb);have b:=zM (hbox);have bE:=sG HB hg;have aF:=sG HB hg;replace HB:=sB HB hb;have ao:=sN a hg;have a9:=sM a hg;replace a:=sK a hb;clear hb hbox hg;obtain⟨Q,L,ba⟩:=Kd.R_slice y.out;subst ba;have bF:=a9.out;have bG:=ao.out;obtain⟨bb,bc,bd,be⟩:=cells2 b.out;obtain⟨T,M,bf⟩:=Kd.R_slice z.out;subst bf)|((with_reducible refine gate_callee (f:=7) rfl ?_);refine sC (some 31) Try.func7 #[.agg #[.slice Q j.length L,.slice T l.length M],.string a1] (impl_EntryOf.calls k _ _ j _ _ l a1 J am _ ?side1 ?side2 ?side3 ?side4 aT.out) ?_;(case side1=>refine(Kd.R_reads' (e:=55) (base:=w.heap.size) (ok:=fun k_=>(True∧some k_≠(.slice aB aa.length aC:Value).ownBlock)) (n:=j.length) (c:=L) ?_).2.2;exact(by(with_reducible repeat(first|apply Kd.R_alloc|apply Kd.R_drewN|apply Kd.R_drew));exact(Kd.R_mono (sRF2 (g:=A) (Kd.R_types y.out b.out (by decide)) (fun _ hk=>hk.2)) (fun _ s=>s.1))));(case side2=>exact(Kd.R_reads' y.out).2.1);(case side3=>refine(Kd.R_reads' (e:=51) (base:=w.heap.size) (ok:=fun k_=>(True∧some k_≠(.slice aD ab.length aE:Value).ownBlock)) (n:=l.length) (c:=M) ?_).2.2;exact(by(with_reducible repeat(first|apply Kd.R_alloc|apply Kd.R_drewN|apply Kd.R_drew));exact(Kd.R_mono (sRF2 (g:=A) (Kd.R_types z.out b.out (by decide)) (fun _ hk=>hk.2)) (fun _ s=>s.1))));(case side4=>exact(Kd.R_reads' z.out).2.1);rintro e bH ⟨rfl,hb⟩;refine⟨_,rfl,?_⟩;have aG:=zM (Kd.R_below (by(with_reducible repeat(first|apply Kd.R_alloc|apply Kd.R_drewN|apply Kd.R_drew));exact(Kd.R_mono (sRF2 (g:=A) (Kd.R_types m.out b.out (by decide)) (fun _ hk=>hk.2)) (fun _ s=>s.1))) hb);have aH:=zM (Kd.R_below (by(with_reducible repeat(first|apply Kd.R_alloc|apply Kd.R_drewN|apply Kd.R_drew));exact(Kd.R_mono (sRF2 (g:=A) (Kd.R_types p.out b.out (by decide)) (fun _ hk=>hk.2)) (fun _ s=>s.1))) hb);have aI:=zM (Kd.R_below (by(with_reducible repeat(first|apply Kd.R_alloc|apply Kd.R_drewN|apply Kd.R_drew));exact(Kd.R_mono (sRF2 (g:=A) (Kd.R_types y.out b.out (by decide)) (fun _ hk=>hk.2)) (fun _ s=>s.1))) hb);have aJ:=zM (Kd.R_below (by(with_reducible repeat(first|apply Kd.R_alloc|apply Kd.R_drewN|apply Kd.R_drew));exact(Kd.R_mono (sRF2 (g:=A) (Kd.R_types z.out b.out (by decide)) (fun _ hk=>hk.2)) (fun _ s=>s.1))) hb);have aK:=zM (blk_below (g:=P) (o:= .cells #[.slice A0_0 l0_0.length c0_0,.slice A0_1 l0_1.length c0_1] 25 (0,0)) (by(with_reducible repeat(first|refine blk_drewN ?_ _|refine blk_drew ?_|refine blk_alloc ?_ _));refine blk_far ?_ ao.out _;(with_reducible repeat(first|refine blk_drewN ?_ _|refine blk_drew ?_|refine blk_alloc ?_ _));refine blk_far ?_ ao.out _;exact sT a.out) hb);have aL:=zM (blk_below (g:=A) (o:= .cells #[.slice Q j.length L,.slice T l.length M] 32 (0,0)) (by exact sP2 (sT b.out)) hb);have aM:=sB HB hb;clear m;clear p;clear y;clear z;clear a;clear b;clear HB;have m:=aG;have p:=aH;have y:=aI;have z:=aJ;have a:=aK;have b:=aL;have HB:=aM;clear aG aH aI aJ aK aL aM;(try clear hb);(try clear hk)))
 (try simp only[zP])
 go_cut [41] (fun bg wc=>∃(kq:Nat) (ah:Bool),bg= .bool ah∧Aside0 (laws_FnExactEntryOf.j0 kq ah l0_0 l0_1 j l=some true)∧Aside0 (kq≤k)∧Aside0 (Kd.R k55 55 wc w.heap.size (fun _=>True) (.slice Q j.length L) j)∧Aside0 (Kd.R k51 51 wc w.heap.size (fun _=>True) (.slice T l.length M) l)∧Aside0 (wc.heap[P]?=some (.cells #[(.slice A0_0 l0_0.length c0_0),(.slice A0_1 l0_1.length c0_1)] 25 (0,0)))∧Aside0 (wc.heap[A]?=some (.cells #[(.slice Q j.length L),(.slice T l.length M)] 32 (0,0)))∧Aside0 (Below w.heap.size w wc))
 case first=>(
 have H:=an.out
 clear an
 by_cases O:J=E
 ·(
 rw[if_pos O]at H
 have c31b0:(J==E)=true:=zE O
 have c31b1:(J !=E)=false:=zY O
 clear O
 (first|rw[c31b0]|(simp only[i64_w,i32_w];rw[c31b0])|rw[c31b2]|skip)
 have H':=zM H
 clear H
 go_wp2
 go_meet
 case rel=>exact⟨_,((am !=ac)),sr,H',⟨by first|omega|exact Nat.le_refl _⟩,⟨by(with_reducible repeat(first|apply Kd.R_alloc|apply Kd.R_drewN|apply Kd.R_drew));exact Kd.R_mono y.out (fun _ hk=>trivial)⟩,⟨by(with_reducible repeat(first|apply Kd.R_alloc|apply Kd.R_drewN|apply Kd.R_drew));exact Kd.R_mono z.out (fun _ hk=>trivial)⟩,⟨by exact sT a.out⟩,⟨by exact sT b.out⟩,⟨sb⟩⟩)
 rw[if_neg O]at H
 have c31b0:(J==E)=false:=zN O
 have c31b1:(J !=E)=true:=zX O
 (first|rw[c31b0]|(simp only[i64_w,i32_w];rw[c31b0])|rw[c31b2]|skip)
 have H':=zM H
 clear H
 go_wp2
 go_meet
 case rel=>exact⟨_,(true),sr,H',⟨by first|omega|exact Nat.le_refl _⟩,⟨by(with_reducible repeat(first|apply Kd.R_alloc|apply Kd.R_drewN|apply Kd.R_drew));exact Kd.R_mono y.out (fun _ hk=>trivial)⟩,⟨by(with_reducible repeat(first|apply Kd.R_alloc|apply Kd.R_drewN|apply Kd.R_drew));exact Kd.R_mono z.out (fun _ hk=>trivial)⟩,⟨by exact sT a.out⟩,⟨by exact sT b.out⟩,⟨sb⟩⟩)
 case rest=>(
 clear an
 try clear G
 try clear c3b0
 try clear c3b1
 try clear I
 try clear c6b0
 try clear aU
 try clear aV
 try clear aY
 try clear aZ
 try clear a5
 try clear a6
 try clear bb
 try clear bc
 try clear aW
 try clear aX
 try clear a0
 try clear a2
 try clear a7
 try clear a8
 try clear bd
 try clear be
 obtain⟨kq,ah,rfl,HA,bI,B,D,a,b,HB⟩:=hcut
 cases kq with
 |zero=>exact absurd HA.out (by simp[laws_FnExactEntryOf.j0])
 |succ kj13=>(
 have H:=HA.out
 clear HA
 simp only[laws_FnExactEntryOf.j0]at H
 by_cases ai:ah=true
 ·(
 subst ai
 rewrite[if_pos rfl]at H
 exact absurd H (by simp))
 replace ai:=zB ai
 subst ai
 rewrite[if_neg zQ]at H
 replace H:=Option.bind_eq_some_iff.mp H
 obtain⟨⟨aj,ak⟩,aN,H⟩:=H
 replace H:((laws_eqPatternCode.f kj13 j l aj ak).bind fun ap=>(if ap=true then(some true)else(some false)))=some true:=H
 have bh:=zM aN
 clear aN
 obtain⟨ap,bi,H⟩:=sO H
 by_cases al:ap=true
 ·(
 subst al
 have H1:(some true)=some true:=rfl
 clear H
 have H:=H1
 clear H1
 clear H
 try go_wp2
 replace B:=zM (Kd.R_drew B.out)
 replace D:=zM (Kd.R_drew D.out)
 replace a:=zM (blk_drew a.out)
 replace b:=zM (blk_drew b.out)
 replace HB:=zM (below_drew1 HB.out)
 refine start_ (n:=5) (S:=fun w'=>w'.cell? ⟨A,0,none⟩=some (.slice Q j.length L)∧w'.cell? ⟨A,1,none⟩=some (.slice T l.length M)∧w'.cell? ⟨P,0,none⟩=some (.slice A0_0 l0_0.length c0_0)∧w'.cell? ⟨P,1,none⟩=some (.slice A0_1 l0_1.length c0_1)) (ds:=[]) #[false,false,false,false,false] (by kernel_rfl) rfl rfl ⟨(blk_cell b.out 0).trans rfl,(blk_cell b.out 1).trans rfl,(blk_cell a.out 0).trans rfl,(blk_cell a.out 1).trans rfl⟩ (fun hHeld=>?_)
 generalize wc.drew=w36 at B D a b HB hHeld ⊢
 refine take_ (i:=0) (N:=some 42) (v:=?_) (a':=?_) #[true,false,false,false,false] rfl rfl (by kernel_rfl) (fun _ _ _ h=>h) (Or.inl ⟨by rfl,?_⟩) hHeld ?_ ?_
 rotate_left
 ·(
 rintro w' ⟨s0,s1,s2,s3⟩
 go_simp
 with_reducible rfl)
 rotate_left
 ·(
 simp only[zP,i64_w,i32_w]
 rfl)
 refine take_ (i:=1) (N:=some 43) (v:=?_) (a':=?_) #[true,true,false,false,false] rfl rfl (by kernel_rfl) (fun _ _ _ h=>h) (Or.inl ⟨by rfl,?_⟩) hHeld ?_ ?_
 rotate_left
 ·(
 rintro w' ⟨s0,s1,s2,s3⟩
 go_simp
 with_reducible rfl)
 rotate_left
 ·(
 simp only[zP,i64_w,i32_w]
 rfl)
 refine one_ (i:=2) (N:=some 44) #[true,true,true,false,false] rfl rfl (by kernel_rfl) (by decide) (fun K hK=>?_)
 refine goes_ Try.func6 (by kernel_rfl) rfl #[.agg #[.slice A0_0 l0_0.length c0_0,.slice A0_1 l0_1.length c0_1]] (by rfl) rfl rfl (by(try simp only[List.map_toArray,List.map_cons,List.map_nil]);first|done|rfl|(simp only[List.length_drop,List.length_take];rfl)) ?_
 with_reducible refine(laws_toPatternCode.calls kj13 _ _ l0_0 _ _ l0_1 aj ak _ ?side1 ?side2 ?side3 ?side4 bh.out).mono ?_
 (case side1=>exact sD (zC U.out HB.out))
 (case side2=>exact V.out)
 (case side3=>exact sD (zC W.out HB.out))
 (case side4=>exact X.out)
 rintro e bJ ⟨bK,bL,rfl,u,x,hb⟩
 refine⟨_,rfl,?_⟩
 have ad:=zM (Kd.R_lower (Kd.R_new' u (Kd.R_lt (sE B.out))) (below_size zzR))
 replace B:=zM (Kd.R_elder' (sE B.out) (Kd.R_base u) hb)
 have ae:=zM (Kd.R_lower (Kd.R_new' x (Kd.R_lt (sE D.out))) (below_size zzR))
 replace D:=zM (Kd.R_elder' (sE D.out) (Kd.R_base x) hb)
 replace a:=sK a hb
 replace b:=sK b hb
 replace HB:=sB HB hb
 (try clear hb)
 (try clear hb2)
 (try clear hk)
 (try clear hi)
 (try clear u)
 (try clear x)
 obtain⟨bj,bk,aO⟩:=Kd.R_slice ad.out
 (first|subst aO|(injection aO with af aq ag;have ar:=af.symm;have au:=ag.symm;clear af aq ag;subst ar;subst au))
 obtain⟨bl,bm,aP⟩:=Kd.R_slice ae.out
 (first|subst aP|(injection aP with af aq ag;have ar:=af.symm;have au:=ag.symm;clear af aq ag;subst ar;subst au))
 refine hK.out _ _ ⟨(blk_cell b.out 0).trans rfl,(blk_cell b.out 1).trans rfl,(blk_cell a.out 0).trans rfl,(blk_cell a.out 1).trans rfl⟩ (fun hHeld=>?_)
 clear hK K
 refine norm_ (a':=?_) ?_ ?_
 rotate_left
 ·(
 show Act.put _ (some 44) _=_
 simp only[zP,i64_w,i32_w]
 rfl)
 refine one_ (i:=3) (N:=some 45) #[true,true,true,true,false] rfl rfl (by kernel_rfl) (by decide) (fun K hK=>?_)
 refine goes_ Try.func8 (by kernel_rfl) rfl #[.agg #[.slice Q j.length L,.slice T l.length M],.agg #[.slice bj aj.length bk,.slice bl ak.length bm]] (by rfl) rfl rfl (by(try simp only[List.map_toArray,List.map_cons,List.map_nil]);first|done|rfl|(simp only[List.length_drop,List.length_take];rfl)) ?_
 with_reducible refine(laws_eqPatternCode.calls kj13 _ _ j _ _ l _ _ aj _ _ ak true _ ?side1 ?side2 ?side3 ?side4 ?side5 ?side6 ?side7 ?side8 bi.out).mono ?_
 (case side1=>exact sD ((Kd.R_reads' B.out).2.2))
 (case side2=>exact(Kd.R_reads' B.out).2.1)
 (case side3=>exact sD ((Kd.R_reads' D.out).2.2))
 (case side4=>exact(Kd.R_reads' D.out).2.1)
 (case side5=>exact sD ((Kd.R_reads' ad.out).2.2))
 (case side6=>exact(Kd.R_reads' ad.out).2.1)
 (case side7=>exact sD ((Kd.R_reads' ae.out).2.2))
 (case side8=>exact(Kd.R_reads' ae.out).2.1)
 rintro e bM ⟨rfl,hb⟩
 refine⟨_,rfl,?_⟩
 replace B:=zM (Kd.R_below (sE B.out) hb)
 replace D:=zM (Kd.R_below (sE D.out) hb)
 replace ad:=zM (Kd.R_below (sE ad.out) hb)
 replace ae:=zM (Kd.R_below (sE ae.out) hb)
 replace a:=sK a hb
 replace b:=sK b hb
 replace HB:=sB HB hb
 (try clear hb)
 (try clear hb2)
 (try clear hk)
 (try clear hi)
 refine hK.out _ _ ⟨(blk_cell b.out 0).trans rfl,(blk_cell b.out 1).trans rfl,(blk_cell a.out 0).trans rfl,(blk_cell a.out 1).trans rfl⟩ (fun hHeld=>?_)
 clear hK K
 refine norm_ (a':=?_) ?_ ?_
 rotate_left
 ·(
 show Act.put _ (some 45) _=_
 simp only[zP,i64_w,i32_w]
 rfl)
 refine pure_ (i:=4) (N:=some 46) (v:=?_) (a':=?_) #[true,true,true,true,true] rfl rfl (by kernel_rfl) (fun _ _ _ h=>h) (Or.inl ⟨by rfl,?_⟩) ?_ ?_
 rotate_left
 ·(
 intro w'
 go_simp
 with_reducible rfl)
 rotate_left
 ·(
 simp only[zP,i64_w,i32_w]
 rfl)
 refine done_ (by kernel_rfl) ?_
 try go_wp2
 go_ret
 exact⟨sq,sb⟩)
 replace al:=zB al
 subst al
 rewrite[if_neg zQ]at H
 exact absurd H (by simp)))
end Go.Proofs.Ytcppdkdnpmgpmaa.PFnExactEntryOf
