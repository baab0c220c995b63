/- Printed functions: impl_isArgument, impl_ValidIns, impl_PatternIns__impl_ValidIns. -/
import Derived.Test.YtcppdkdnpmgpmaaYEoP0
import Derived.Test.YtcppdkdnpmgpmaaYEoP12
import Derived.Test.YtcppdkdnpmgpmaaYEoP13
import Derived.Test.YtcppdkdnpmgpmaaYEoP15
namespace Go.Proofs.Ytcppdkdnpmgpmaa.PFnExactEntryOf
open Go.RowKit Go.Proofs.YtcppdkdnpmgpmaaG Go.Proofs.YtcppdkdnpmgpmaaW.PrintWords Go.Proofs.YtcppdkdnpmgpmaaW.PrintLast Go.Proofs.YtcppdkdnpmgpmaaW.PrintMore
attribute [local go_sem] max2_int min2_int max_two min_two max_three min_three max_four min_four
set_option linter.unusedVariables false
set_option linter.unusedSimpArgs false
def impl_isArgument.f (k:Nat) (a0:Int) (a1:Int) (a2:ByteArray):Option (Bool):=if a0=1 then(if a1=0 then((impl_isShort.f a2).bind fun t256=>(some t256))else(some false))else((impl_hasSet.f a0).bind fun t257=>(if t257=true then(if a1=0 then(if a2.toList=([]:List UInt8)then(some false)else((impl_isShort.f a2).bind fun t258=>(some t258)))else(some false))else((impl_hasNumber.f a0).bind fun t259=>(if t259=true then(if a2.toList=([]:List UInt8)then((impl_within.f a1 0 200).bind fun t260=>(some t260))else(some false))else((impl_hasName.f a0).bind fun t261=>(if t261=true then(if a1=0 then((impl_IsName.f k a2).bind fun t262=>(some t262))else(some false))else((impl_isPatternKind.f a0).bind fun t263=>(if t263=true then(if a1=0 then(some (a2.toList.isEmpty))else(some false))else(some false)))))))))
set_option maxHeartbeats 8000000 in
set_option maxRecDepth 100000 in
theorem impl_isArgument.calls (k:Nat) (a0:Int) (a1:Int) (a2:ByteArray) (r:Bool) (w:World) (h:impl_isArgument.f k a0 a1 a2=some r):
  Calls Try.prog 43 #[.int .i64 a0,.int .i64 a1,.string a2] w fun e w'=>e= .returned (.bool r)∧Below w.heap.size w w':=by
 have HB:=zM (Below.refl w.heap.size w)
 have H:(if a0=1 then(if a1=0 then((impl_isShort.f a2).bind fun x=>(some x))else(some false))else((impl_hasSet.f a0).bind fun y=>(if y=true then(if a1=0 then(if a2.toList=([]:List UInt8)then(some false)else((impl_isShort.f a2).bind fun z=>(some z)))else(some false))else((impl_hasNumber.f a0).bind fun A=>(if A=true then(if a2.toList=([]:List UInt8)then((impl_within.f a1 0 200).bind fun B=>(some B))else(some false))else((impl_hasName.f a0).bind fun D=>(if D=true then(if a1=0 then((impl_IsName.f k a2).bind fun E=>(some E))else(some false))else((impl_isPatternKind.f a0).bind fun F=>(if F=true then(if a1=0 then(some (a2.toList.isEmpty))else(some false))else(some false))))))))))=some r:=h
 clear h
 by_cases d:a0=1
 ·(
 rw[if_pos d]at H
 have c4b0:(a0==1)=true:=zE d
 have c4b1:(a0 !=1)=false:=zY d
 clear d
 by_cases i:a1=0
 ·(
 rw[if_pos i]at H
 have c5b0:(a1==0)=true:=zE i
 have c5b1:(a1 !=0)=false:=zY i
 clear i
 obtain⟨x,I,H⟩:=sO H
 obtain rfl:=zI H
 go_enter Try.func43,Try.ntmps43
 go_wp2_with (first|(go_at_call 60;(with_reducible refine(impl_isShort.calls a2 x _ I.out).mono ?_);rintro e w' ⟨rfl,⟨nd,rfl⟩⟩))
 go_ret
 exact⟨sq,sb⟩)
 rw[if_neg i]at H
 have c5b0:(a1==0)=false:=zN i
 have c5b1:(a1 !=0)=true:=zX i
 obtain rfl:=zI H
 go_enter Try.func43,Try.ntmps43
 go_wp2
 go_ret
 exact⟨sq,sb⟩)
 rw[if_neg d]at H
 have c4b0:(a0==1)=false:=zN d
 have c4b1:(a0 !=1)=true:=zX d
 obtain⟨y,a,H⟩:=sO H
 by_cases q:y=true
 ·(
 subst q
 rewrite[if_pos rfl]at H
 by_cases j:a1=0
 ·(
 rw[if_pos j]at H
 have c9b0:(a1==0)=true:=zE j
 have c9b1:(a1 !=0)=false:=zY j
 clear j
 by_cases b:a2.toList=([]:List UInt8)
 ·(
 rw[if_pos b]at H
 have c10b0:(a2.toList==([]:List UInt8))=true:=zE b
 have c10b1:(a2.toList !=([]:List UInt8))=false:=zY b
 have c10b2:a2.toList.isEmpty=true:=by simpa using b
 clear b
 obtain rfl:=zI H
 go_enter Try.func43,Try.ntmps43
 go_wp2_with (first|((with_reducible refine gate_callee (f:=61) rfl ?_);refine sC (some 18) Try.func61 #[.int .i64 a0] (impl_hasSet.calls a0 true _ a.out) ?_;rintro e w' ⟨rfl,⟨nd,rfl⟩⟩;refine⟨_,rfl,?_⟩))
 go_ret
 exact⟨sq,sb⟩)
 rw[if_neg b]at H
 have c10b0:(a2.toList==([]:List UInt8))=false:=zN b
 have c10b1:(a2.toList !=([]:List UInt8))=true:=zX b
 have c10b2:a2.toList.isEmpty=false:=by simpa using b
 obtain⟨z,J,H⟩:=sO H
 obtain rfl:=zI H
 go_enter Try.func43,Try.ntmps43
 go_wp2_with (first|((with_reducible refine gate_callee (f:=61) rfl ?_);refine sC (some 18) Try.func61 #[.int .i64 a0] (impl_hasSet.calls a0 true _ a.out) ?_;rintro e w' ⟨rfl,⟨nd,rfl⟩⟩;refine⟨_,rfl,?_⟩)|(go_at_call 60;(with_reducible refine(impl_isShort.calls a2 z _ J.out).mono ?_);rintro e w' ⟨rfl,⟨nd,rfl⟩⟩))
 go_ret
 exact⟨sq,sb⟩)
 rw[if_neg j]at H
 have c9b0:(a1==0)=false:=zN j
 have c9b1:(a1 !=0)=true:=zX j
 obtain rfl:=zI H
 go_enter Try.func43,Try.ntmps43
 go_wp2_with (first|((with_reducible refine gate_callee (f:=61) rfl ?_);refine sC (some 18) Try.func61 #[.int .i64 a0] (impl_hasSet.calls a0 true _ a.out) ?_;rintro e w' ⟨rfl,⟨nd,rfl⟩⟩;refine⟨_,rfl,?_⟩))
 go_ret
 exact⟨sq,sb⟩)
 replace q:=zB q
 subst q
 rewrite[if_neg zQ]at H
 obtain⟨A,l,H⟩:=sO H
 by_cases s:A=true
 ·(
 subst s
 rewrite[if_pos rfl]at H
 by_cases c:a2.toList=([]:List UInt8)
 ·(
 rw[if_pos c]at H
 have c14b0:(a2.toList==([]:List UInt8))=true:=zE c
 have c14b1:(a2.toList !=([]:List UInt8))=false:=zY c
 have c14b2:a2.toList.isEmpty=true:=by simpa using c
 clear c
 obtain⟨B,K,H⟩:=sO H
 obtain rfl:=zI H
 go_enter Try.func43,Try.ntmps43
 go_wp2_with (first|((with_reducible refine gate_callee (f:=61) rfl ?_);refine sC (some 18) Try.func61 #[.int .i64 a0] (impl_hasSet.calls a0 false _ a.out) ?_;rintro e w' ⟨rfl,⟨nd,rfl⟩⟩;refine⟨_,rfl,?_⟩)|((with_reducible refine gate_callee (f:=62) rfl ?_);refine sC (some 31) Try.func62 #[.int .i64 a0] (impl_hasNumber.calls a0 true _ l.out) ?_;rintro e w' ⟨rfl,⟨nd,rfl⟩⟩;refine⟨_,rfl,?_⟩)|(go_at_call 48;(with_reducible refine(impl_within.calls a1 0 200 B _ K.out).mono ?_);rintro e w' ⟨rfl,⟨nd,rfl⟩⟩))
 go_ret
 exact⟨sq,sb⟩)
 rw[if_neg c]at H
 have c14b0:(a2.toList==([]:List UInt8))=false:=zN c
 have c14b1:(a2.toList !=([]:List UInt8))=true:=zX c
 have c14b2:a2.toList.isEmpty=false:=by simpa using c
 obtain rfl:=zI H
 go_enter Try.func43,Try.ntmps43
 go_wp2_with (first|((with_reducible refine gate_callee (f:=61) rfl ?_);refine sC (some 18) Try.func61 #[.int .i64 a0] (impl_hasSet.calls a0 false _ a.out) ?_;rintro e w' ⟨rfl,⟨nd,rfl⟩⟩;refine⟨_,rfl,?_⟩)|((with_reducible refine gate_callee (f:=62) rfl ?_);refine sC (some 31) Try.func62 #[.int .i64 a0] (impl_hasNumber.calls a0 true _ l.out) ?_;rintro e w' ⟨rfl,⟨nd,rfl⟩⟩;refine⟨_,rfl,?_⟩))
 go_ret
 exact⟨sq,sb⟩)
 replace s:=zB s
 subst s
 rewrite[if_neg zQ]at H
 obtain⟨D,p,H⟩:=sO H
 by_cases u:D=true
 ·(
 subst u
 rewrite[if_pos rfl]at H
 by_cases m:a1=0
 ·(
 rw[if_pos m]at H
 have c18b0:(a1==0)=true:=zE m
 have c18b1:(a1 !=0)=false:=zY m
 clear m
 obtain⟨E,L,H⟩:=sO H
 obtain rfl:=zI H
 go_enter Try.func43,Try.ntmps43
 go_wp2_with (first|((with_reducible refine gate_callee (f:=61) rfl ?_);refine sC (some 18) Try.func61 #[.int .i64 a0] (impl_hasSet.calls a0 false _ a.out) ?_;rintro e w' ⟨rfl,⟨nd,rfl⟩⟩;refine⟨_,rfl,?_⟩)|((with_reducible refine gate_callee (f:=62) rfl ?_);refine sC (some 31) Try.func62 #[.int .i64 a0] (impl_hasNumber.calls a0 false _ l.out) ?_;rintro e w' ⟨rfl,⟨nd,rfl⟩⟩;refine⟨_,rfl,?_⟩)|((with_reducible refine gate_callee (f:=63) rfl ?_);refine sC (some 40) Try.func63 #[.int .i64 a0] (impl_hasName.calls a0 true _ p.out) ?_;rintro e w' ⟨rfl,⟨nd,rfl⟩⟩;refine⟨_,rfl,?_⟩)|(go_at_call 47;(with_reducible refine(impl_IsName.calls k a2 E _ L.out).mono ?_);rintro e M ⟨rfl,hb⟩;replace HB:=sB HB hb;(try clear hb)))
 go_ret
 exact⟨sq,sb⟩)
 rw[if_neg m]at H
 have c18b0:(a1==0)=false:=zN m
 have c18b1:(a1 !=0)=true:=zX m
 obtain rfl:=zI H
 go_enter Try.func43,Try.ntmps43
 go_wp2_with (first|((with_reducible refine gate_callee (f:=61) rfl ?_);refine sC (some 18) Try.func61 #[.int .i64 a0] (impl_hasSet.calls a0 false _ a.out) ?_;rintro e w' ⟨rfl,⟨nd,rfl⟩⟩;refine⟨_,rfl,?_⟩)|((with_reducible refine gate_callee (f:=62) rfl ?_);refine sC (some 31) Try.func62 #[.int .i64 a0] (impl_hasNumber.calls a0 false _ l.out) ?_;rintro e w' ⟨rfl,⟨nd,rfl⟩⟩;refine⟨_,rfl,?_⟩)|((with_reducible refine gate_callee (f:=63) rfl ?_);refine sC (some 40) Try.func63 #[.int .i64 a0] (impl_hasName.calls a0 true _ p.out) ?_;rintro e w' ⟨rfl,⟨nd,rfl⟩⟩;refine⟨_,rfl,?_⟩))
 go_ret
 exact⟨sq,sb⟩)
 replace u:=zB u
 subst u
 rewrite[if_neg zQ]at H
 obtain⟨F,G,H⟩:=sO H
 by_cases v:F=true
 ·(
 subst v
 rewrite[if_pos rfl]at H
 by_cases n:a1=0
 ·(
 rw[if_pos n]at H
 have c23b0:(a1==0)=true:=zE n
 have c23b1:(a1 !=0)=false:=zY n
 clear n
 obtain rfl:=zI H
 go_enter Try.func43,Try.ntmps43
 go_wp2_with (first|((with_reducible refine gate_callee (f:=61) rfl ?_);refine sC (some 18) Try.func61 #[.int .i64 a0] (impl_hasSet.calls a0 false _ a.out) ?_;rintro e w' ⟨rfl,⟨nd,rfl⟩⟩;refine⟨_,rfl,?_⟩)|((with_reducible refine gate_callee (f:=62) rfl ?_);refine sC (some 31) Try.func62 #[.int .i64 a0] (impl_hasNumber.calls a0 false _ l.out) ?_;rintro e w' ⟨rfl,⟨nd,rfl⟩⟩;refine⟨_,rfl,?_⟩)|((with_reducible refine gate_callee (f:=63) rfl ?_);refine sC (some 40) Try.func63 #[.int .i64 a0] (impl_hasName.calls a0 false _ p.out) ?_;rintro e w' ⟨rfl,⟨nd,rfl⟩⟩;refine⟨_,rfl,?_⟩)|((with_reducible refine gate_callee (f:=58) rfl ?_);refine sC (some 48) Try.func58 #[.int .i64 a0] (impl_isPatternKind.calls a0 true _ G.out) ?_;rintro e w' ⟨rfl,⟨nd,rfl⟩⟩;refine⟨_,rfl,?_⟩))
 go_ret
 exact⟨sq,sb⟩)
 rw[if_neg n]at H
 have c23b0:(a1==0)=false:=zN n
 have c23b1:(a1 !=0)=true:=zX n
 obtain rfl:=zI H
 go_enter Try.func43,Try.ntmps43
 go_wp2_with (first|((with_reducible refine gate_callee (f:=61) rfl ?_);refine sC (some 18) Try.func61 #[.int .i64 a0] (impl_hasSet.calls a0 false _ a.out) ?_;rintro e w' ⟨rfl,⟨nd,rfl⟩⟩;refine⟨_,rfl,?_⟩)|((with_reducible refine gate_callee (f:=62) rfl ?_);refine sC (some 31) Try.func62 #[.int .i64 a0] (impl_hasNumber.calls a0 false _ l.out) ?_;rintro e w' ⟨rfl,⟨nd,rfl⟩⟩;refine⟨_,rfl,?_⟩)|((with_reducible refine gate_callee (f:=63) rfl ?_);refine sC (some 40) Try.func63 #[.int .i64 a0] (impl_hasName.calls a0 false _ p.out) ?_;rintro e w' ⟨rfl,⟨nd,rfl⟩⟩;refine⟨_,rfl,?_⟩)|((with_reducible refine gate_callee (f:=58) rfl ?_);refine sC (some 48) Try.func58 #[.int .i64 a0] (impl_isPatternKind.calls a0 true _ G.out) ?_;rintro e w' ⟨rfl,⟨nd,rfl⟩⟩;refine⟨_,rfl,?_⟩))
 go_ret
 exact⟨sq,sb⟩)
 replace v:=zB v
 subst v
 rewrite[if_neg zQ]at H
 obtain rfl:=zI H
 go_enter Try.func43,Try.ntmps43
 go_wp2_with (first|((with_reducible refine gate_callee (f:=61) rfl ?_);refine sC (some 18) Try.func61 #[.int .i64 a0] (impl_hasSet.calls a0 false _ a.out) ?_;rintro e w' ⟨rfl,⟨nd,rfl⟩⟩;refine⟨_,rfl,?_⟩)|((with_reducible refine gate_callee (f:=62) rfl ?_);refine sC (some 31) Try.func62 #[.int .i64 a0] (impl_hasNumber.calls a0 false _ l.out) ?_;rintro e w' ⟨rfl,⟨nd,rfl⟩⟩;refine⟨_,rfl,?_⟩)|((with_reducible refine gate_callee (f:=63) rfl ?_);refine sC (some 40) Try.func63 #[.int .i64 a0] (impl_hasName.calls a0 false _ p.out) ?_;rintro e w' ⟨rfl,⟨nd,rfl⟩⟩;refine⟨_,rfl,?_⟩)|((with_reducible refine gate_callee (f:=58) rfl ?_);refine sC (some 48) Try.func58 #[.int .i64 a0] (impl_isPatternKind.calls a0 false _ G.out) ?_;rintro e w' ⟨rfl,⟨nd,rfl⟩⟩;refine⟨_,rfl,?_⟩))
 go_ret
 exact⟨sq,sb⟩
def impl_ValidIns.f (k:Nat) (a0_0:Int) (a0_1:Int) (a0_2:ByteArray):Option (Bool):=(impl_isLeaf.f k a0_0).bind fun t265=>(if t265=true then((impl_isArgument.f k a0_0 a0_1 a0_2).bind fun t266=>(some t266))else((impl_hasAddress.f a0_0).bind fun t267=>(if t267=true then(if a0_2.toList=([]:List UInt8)then((impl_isIndex.f a0_1 13000).bind fun t268=>(some t268))else(some false))else((impl_isCapture.f a0_0).bind fun t269=>(if t269=true then(if a0_1=0 then((impl_IsName.f k a0_2).bind fun t270=>(some t270))else(some false))else((impl_within.f a0_0 31 39).bind fun t271=>(if t271=true then(if a0_1=0 then(some (a0_2.toList.isEmpty))else(some false))else(some false))))))))
set_option maxHeartbeats 8000000 in
set_option maxRecDepth 100000 in
theorem impl_ValidIns.calls (k:Nat) (a0_0:Int) (a0_1:Int) (a0_2:ByteArray) (r:Bool) (w:World) (h:impl_ValidIns.f k a0_0 a0_1 a0_2=some r):
  Calls Try.prog 34 #[.agg #[.int .i64 a0_0,.int .i64 a0_1,.string a0_2]] w fun e w'=>e= .returned (.bool r)∧Below w.heap.size w w':=by
 have K:=Try.underlying55
 have HB:=zM (Below.refl w.heap.size w)
 have H:((impl_isLeaf.f k a0_0).bind fun x=>(if x=true then((impl_isArgument.f k a0_0 a0_1 a0_2).bind fun y=>(some y))else((impl_hasAddress.f a0_0).bind fun z=>(if z=true then(if a0_2.toList=([]:List UInt8)then((impl_isIndex.f a0_1 13000).bind fun A=>(some A))else(some false))else((impl_isCapture.f a0_0).bind fun B=>(if B=true then(if a0_1=0 then((impl_IsName.f k a0_2).bind fun D=>(some D))else(some false))else((impl_within.f a0_0 31 39).bind fun E=>(if E=true then(if a0_1=0 then(some (a0_2.toList.isEmpty))else(some false))else(some false)))))))))=some r:=h
 clear h
 obtain⟨x,c,H⟩:=sO H
 by_cases q:x=true
 ·(
 subst q
 rewrite[if_pos rfl]at H
 obtain⟨y,G,H⟩:=sO H
 obtain rfl:=zI H
 go_enter Try.func34,Try.ntmps34
 go_wp2_with (first|((with_reducible refine gate_dst (N:=1) rfl ?_);refine sV (N:=1) (cs:= #[.int .i64 a0_0,.int .i64 a0_1,.string a0_2]) (t:=55) ?_;intro d hg L hbox hb;have a:=zM (hbox);have i:=sG HB hg;have j:=sG HB hg;replace HB:=sB HB hb;clear hb hbox hg;obtain⟨M,O,P,Q,R,S⟩:=cells3 a.out)|((with_reducible refine gate_callee (f:=42) rfl ?_);refine sC (some 6) Try.func42 #[.int .i64 a0_0] (impl_isLeaf.calls k a0_0 true _ c.out) ?_;rintro e w' ⟨rfl,⟨nd,rfl⟩⟩;refine⟨_,rfl,?_⟩)|((with_reducible refine gate_callee (f:=43) rfl ?_);refine sC (some 13) Try.func43 #[.int .i64 a0_0,.int .i64 a0_1,.string a0_2] (impl_isArgument.calls k a0_0 a0_1 a0_2 y _ G.out) ?_;rintro e T ⟨rfl,hb⟩;refine⟨_,rfl,?_⟩;replace a:=sK a hb;replace HB:=sB HB hb;(try clear hb)))
 go_ret
 exact⟨sq,sb⟩)
 replace q:=zB q
 subst q
 rewrite[if_neg zQ]at H
 obtain⟨z,l,H⟩:=sO H
 by_cases s:z=true
 ·(
 subst s
 rewrite[if_pos rfl]at H
 by_cases b:a0_2.toList=([]:List UInt8)
 ·(
 rw[if_pos b]at H
 have c10b0:(a0_2.toList==([]:List UInt8))=true:=zE b
 have c10b1:(a0_2.toList !=([]:List UInt8))=false:=zY b
 have c10b2:a0_2.toList.isEmpty=true:=by simpa using b
 clear b
 obtain⟨A,I,H⟩:=sO H
 obtain rfl:=zI H
 go_enter Try.func34,Try.ntmps34
 go_wp2_with (first|((with_reducible refine gate_dst (N:=1) rfl ?_);refine sV (N:=1) (cs:= #[.int .i64 a0_0,.int .i64 a0_1,.string a0_2]) (t:=55) ?_;intro d hg U hbox hb;have a:=zM (hbox);have i:=sG HB hg;have j:=sG HB hg;replace HB:=sB HB hb;clear hb hbox hg;obtain⟨V,W,X,Y,Z,aa⟩:=cells3 a.out)|((with_reducible refine gate_callee (f:=42) rfl ?_);refine sC (some 6) Try.func42 #[.int .i64 a0_0] (impl_isLeaf.calls k a0_0 false _ c.out) ?_;rintro e w' ⟨rfl,⟨nd,rfl⟩⟩;refine⟨_,rfl,?_⟩)|((with_reducible refine gate_callee (f:=44) rfl ?_);refine sC (some 17) Try.func44 #[.int .i64 a0_0] (impl_hasAddress.calls a0_0 true _ l.out) ?_;rintro e w' ⟨rfl,⟨nd,rfl⟩⟩;refine⟨_,rfl,?_⟩)|(go_at_call 45;(with_reducible refine(impl_isIndex.calls a0_1 13000 A _ I.out).mono ?_);rintro e w' ⟨rfl,⟨nd,rfl⟩⟩))
 go_ret
 exact⟨sq,sb⟩)
 rw[if_neg b]at H
 have c10b0:(a0_2.toList==([]:List UInt8))=false:=zN b
 have c10b1:(a0_2.toList !=([]:List UInt8))=true:=zX b
 have c10b2:a0_2.toList.isEmpty=false:=by simpa using b
 obtain rfl:=zI H
 go_enter Try.func34,Try.ntmps34
 go_wp2_with (first|((with_reducible refine gate_dst (N:=1) rfl ?_);refine sV (N:=1) (cs:= #[.int .i64 a0_0,.int .i64 a0_1,.string a0_2]) (t:=55) ?_;intro d hg ab hbox hb;have a:=zM (hbox);have i:=sG HB hg;have j:=sG HB hg;replace HB:=sB HB hb;clear hb hbox hg;obtain⟨ac,ad,ae,af,ag,ah⟩:=cells3 a.out)|((with_reducible refine gate_callee (f:=42) rfl ?_);refine sC (some 6) Try.func42 #[.int .i64 a0_0] (impl_isLeaf.calls k a0_0 false _ c.out) ?_;rintro e w' ⟨rfl,⟨nd,rfl⟩⟩;refine⟨_,rfl,?_⟩)|((with_reducible refine gate_callee (f:=44) rfl ?_);refine sC (some 17) Try.func44 #[.int .i64 a0_0] (impl_hasAddress.calls a0_0 true _ l.out) ?_;rintro e w' ⟨rfl,⟨nd,rfl⟩⟩;refine⟨_,rfl,?_⟩))
 go_ret
 exact⟨sq,sb⟩)
 replace s:=zB s
 subst s
 rewrite[if_neg zQ]at H
 obtain⟨B,p,H⟩:=sO H
 by_cases u:B=true
 ·(
 subst u
 rewrite[if_pos rfl]at H
 by_cases m:a0_1=0
 ·(
 rw[if_pos m]at H
 have c18b0:(a0_1==0)=true:=zE m
 have c18b1:(a0_1 !=0)=false:=zY m
 clear m
 obtain⟨D,J,H⟩:=sO H
 obtain rfl:=zI H
 go_enter Try.func34,Try.ntmps34
 go_wp2_with (first|((with_reducible refine gate_dst (N:=1) rfl ?_);refine sV (N:=1) (cs:= #[.int .i64 a0_0,.int .i64 a0_1,.string a0_2]) (t:=55) ?_;intro d hg ai hbox hb;have a:=zM (hbox);have i:=sG HB hg;have j:=sG HB hg;replace HB:=sB HB hb;clear hb hbox hg;obtain⟨aj,ak,al,am,an,ao⟩:=cells3 a.out)|((with_reducible refine gate_callee (f:=42) rfl ?_);refine sC (some 6) Try.func42 #[.int .i64 a0_0] (impl_isLeaf.calls k a0_0 false _ c.out) ?_;rintro e w' ⟨rfl,⟨nd,rfl⟩⟩;refine⟨_,rfl,?_⟩)|((with_reducible refine gate_callee (f:=44) rfl ?_);refine sC (some 17) Try.func44 #[.int .i64 a0_0] (impl_hasAddress.calls a0_0 false _ l.out) ?_;rintro e w' ⟨rfl,⟨nd,rfl⟩⟩;refine⟨_,rfl,?_⟩)|((with_reducible refine gate_callee (f:=46) rfl ?_);refine sC (some 29) Try.func46 #[.int .i64 a0_0] (impl_isCapture.calls a0_0 true _ p.out) ?_;rintro e w' ⟨rfl,⟨nd,rfl⟩⟩;refine⟨_,rfl,?_⟩)|(go_at_call 47;(with_reducible refine(impl_IsName.calls k a0_2 D _ J.out).mono ?_);rintro e ap ⟨rfl,hb⟩;replace a:=sK a hb;replace HB:=sB HB hb;(try clear hb)))
 go_ret
 exact⟨sq,sb⟩)
 rw[if_neg m]at H
 have c18b0:(a0_1==0)=false:=zN m
 have c18b1:(a0_1 !=0)=true:=zX m
 obtain rfl:=zI H
 go_enter Try.func34,Try.ntmps34
 go_wp2_with (first|((with_reducible refine gate_dst (N:=1) rfl ?_);refine sV (N:=1) (cs:= #[.int .i64 a0_0,.int .i64 a0_1,.string a0_2]) (t:=55) ?_;intro d hg aq hbox hb;have a:=zM (hbox);have i:=sG HB hg;have j:=sG HB hg;replace HB:=sB HB hb;clear hb hbox hg;obtain⟨ar,au,av,aw,ax,ay⟩:=cells3 a.out)|((with_reducible refine gate_callee (f:=42) rfl ?_);refine sC (some 6) Try.func42 #[.int .i64 a0_0] (impl_isLeaf.calls k a0_0 false _ c.out) ?_;rintro e w' ⟨rfl,⟨nd,rfl⟩⟩;refine⟨_,rfl,?_⟩)|((with_reducible refine gate_callee (f:=44) rfl ?_);refine sC (some 17) Try.func44 #[.int .i64 a0_0] (impl_hasAddress.calls a0_0 false _ l.out) ?_;rintro e w' ⟨rfl,⟨nd,rfl⟩⟩;refine⟨_,rfl,?_⟩)|((with_reducible refine gate_callee (f:=46) rfl ?_);refine sC (some 29) Try.func46 #[.int .i64 a0_0] (impl_isCapture.calls a0_0 true _ p.out) ?_;rintro e w' ⟨rfl,⟨nd,rfl⟩⟩;refine⟨_,rfl,?_⟩))
 go_ret
 exact⟨sq,sb⟩)
 replace u:=zB u
 subst u
 rewrite[if_neg zQ]at H
 obtain⟨E,F,H⟩:=sO H
 by_cases v:E=true
 ·(
 subst v
 rewrite[if_pos rfl]at H
 by_cases n:a0_1=0
 ·(
 rw[if_pos n]at H
 have c27b0:(a0_1==0)=true:=zE n
 have c27b1:(a0_1 !=0)=false:=zY n
 clear n
 obtain rfl:=zI H
 go_enter Try.func34,Try.ntmps34
 go_wp2_with (first|((with_reducible refine gate_dst (N:=1) rfl ?_);refine sV (N:=1) (cs:= #[.int .i64 a0_0,.int .i64 a0_1,.string a0_2]) (t:=55) ?_;intro d hg az hbox hb;have a:=zM (hbox);have i:=sG HB hg;have j:=sG HB hg;replace HB:=sB HB hb;clear hb hbox hg;obtain⟨aA,aB,aC,aD,aE,aF⟩:=cells3 a.out)|((with_reducible refine gate_callee (f:=42) rfl ?_);refine sC (some 6) Try.func42 #[.int .i64 a0_0] (impl_isLeaf.calls k a0_0 false _ c.out) ?_;rintro e w' ⟨rfl,⟨nd,rfl⟩⟩;refine⟨_,rfl,?_⟩)|((with_reducible refine gate_callee (f:=44) rfl ?_);refine sC (some 17) Try.func44 #[.int .i64 a0_0] (impl_hasAddress.calls a0_0 false _ l.out) ?_;rintro e w' ⟨rfl,⟨nd,rfl⟩⟩;refine⟨_,rfl,?_⟩)|((with_reducible refine gate_callee (f:=46) rfl ?_);refine sC (some 29) Try.func46 #[.int .i64 a0_0] (impl_isCapture.calls a0_0 false _ p.out) ?_;rintro e w' ⟨rfl,⟨nd,rfl⟩⟩;refine⟨_,rfl,?_⟩)|((with_reducible refine gate_callee (f:=48) rfl ?_);refine sC (some 40) Try.func48 #[.int .i64 a0_0,.int .i64 31,.int .i64 39] (impl_within.calls a0_0 31 39 true _ F.out) ?_;rintro e w' ⟨rfl,⟨nd,rfl⟩⟩;refine⟨_,rfl,?_⟩))
 go_ret
 exact⟨sq,sb⟩)
 rw[if_neg n]at H
 have c27b0:(a0_1==0)=false:=zN n
 have c27b1:(a0_1 !=0)=true:=zX n
 obtain rfl:=zI H
 go_enter Try.func34,Try.ntmps34
 go_wp2_with (first|((with_reducible refine gate_dst (N:=1) rfl ?_);refine sV (N:=1) (cs:= #[.int .i64 a0_0,.int .i64 a0_1,.string a0_2]) (t:=55) ?_;intro d hg aG hbox hb;have a:=zM (hbox);have i:=sG HB hg;have j:=sG HB hg;replace HB:=sB HB hb;clear hb hbox hg;obtain⟨aH,aI,aJ,aK,aL,aM⟩:=cells3 a.out)|((with_reducible refine gate_callee (f:=42) rfl ?_);refine sC (some 6) Try.func42 #[.int .i64 a0_0] (impl_isLeaf.calls k a0_0 false _ c.out) ?_;rintro e w' ⟨rfl,⟨nd,rfl⟩⟩;refine⟨_,rfl,?_⟩)|((with_reducible refine gate_callee (f:=44) rfl ?_);refine sC (some 17) Try.func44 #[.int .i64 a0_0] (impl_hasAddress.calls a0_0 false _ l.out) ?_;rintro e w' ⟨rfl,⟨nd,rfl⟩⟩;refine⟨_,rfl,?_⟩)|((with_reducible refine gate_callee (f:=46) rfl ?_);refine sC (some 29) Try.func46 #[.int .i64 a0_0] (impl_isCapture.calls a0_0 false _ p.out) ?_;rintro e w' ⟨rfl,⟨nd,rfl⟩⟩;refine⟨_,rfl,?_⟩)|((with_reducible refine gate_callee (f:=48) rfl ?_);refine sC (some 40) Try.func48 #[.int .i64 a0_0,.int .i64 31,.int .i64 39] (impl_within.calls a0_0 31 39 true _ F.out) ?_;rintro e w' ⟨rfl,⟨nd,rfl⟩⟩;refine⟨_,rfl,?_⟩))
 go_ret
 exact⟨sq,sb⟩)
 replace v:=zB v
 subst v
 rewrite[if_neg zQ]at H
 obtain rfl:=zI H
 go_enter Try.func34,Try.ntmps34
 go_wp2_with (first|((with_reducible refine gate_dst (N:=1) rfl ?_);refine sV (N:=1) (cs:= #[.int .i64 a0_0,.int .i64 a0_1,.string a0_2]) (t:=55) ?_;intro d hg aN hbox hb;have a:=zM (hbox);have i:=sG HB hg;have j:=sG HB hg;replace HB:=sB HB hb;clear hb hbox hg;obtain⟨aO,aP,aQ,aR,aS,aT⟩:=cells3 a.out)|((with_reducible refine gate_callee (f:=42) rfl ?_);refine sC (some 6) Try.func42 #[.int .i64 a0_0] (impl_isLeaf.calls k a0_0 false _ c.out) ?_;rintro e w' ⟨rfl,⟨nd,rfl⟩⟩;refine⟨_,rfl,?_⟩)|((with_reducible refine gate_callee (f:=44) rfl ?_);refine sC (some 17) Try.func44 #[.int .i64 a0_0] (impl_hasAddress.calls a0_0 false _ l.out) ?_;rintro e w' ⟨rfl,⟨nd,rfl⟩⟩;refine⟨_,rfl,?_⟩)|((with_reducible refine gate_callee (f:=46) rfl ?_);refine sC (some 29) Try.func46 #[.int .i64 a0_0] (impl_isCapture.calls a0_0 false _ p.out) ?_;rintro e w' ⟨rfl,⟨nd,rfl⟩⟩;refine⟨_,rfl,?_⟩)|((with_reducible refine gate_callee (f:=48) rfl ?_);refine sC (some 40) Try.func48 #[.int .i64 a0_0,.int .i64 31,.int .i64 39] (impl_within.calls a0_0 31 39 false _ F.out) ?_;rintro e w' ⟨rfl,⟨nd,rfl⟩⟩;refine⟨_,rfl,?_⟩))
 go_ret
 exact⟨sq,sb⟩
def impl_PatternIns__impl_ValidIns.l0 : Nat → List (S55) → Int → Int → Option (Bool)
 |0,_,_,_=>none
 |k+1,x7,x8,x9=>if x9<x8 then(if 0≤x9 then(if x9<(x7.length:Int)then((impl_ValidIns.f k ((rd_T55 x7 x9).f0) ((rd_T55 x7 x9).f1) ((rd_T55 x7 x9).f2)).bind fun t274=>(if t274=true then(impl_PatternIns__impl_ValidIns.l0 k x7 x8 (wrap64 (x9+1)))else(some false)))else(none))else(none))else(some true)
def impl_PatternIns__impl_ValidIns.f (k:Nat) (l0:List (S55)):Option (Bool):=impl_PatternIns__impl_ValidIns.l0 k l0 (l0.length:Int) 0
set_option maxHeartbeats 8000000 in
set_option maxRecDepth 100000 in
theorem impl_PatternIns__impl_ValidIns.calls (k:Nat) (A0:Option Addr) (c0:Nat) (l0:List (S55)) (r:Bool) (w:World) (hr0:Kd.C k55 w A0 l0.length l0) (hc0:l0.length≤c0) (h:impl_PatternIns__impl_ValidIns.f k l0=some r):
  Calls Try.prog 33 #[.slice A0 l0.length c0,.func (.func 34) #[] #[]] w fun e w'=>e= .returned (.bool r)∧Below w.heap.size w w':=by
 have F:=Try.underlying55
 have v:=zM hr0
 have G:=zM hc0
 clear hr0 hc0
 have HB:=zM (Below.refl w.heap.size w)
 have H:(impl_PatternIns__impl_ValidIns.l0 k l0 (l0.length:Int) 0)=some r:=h
 clear h
 have H':=zM H
 clear H
 go_enter Try.func33,Try.ntmps33
 go_wp2
 go_loopg [9] k (fun kq z w'=>∃(a:Int),z= .int .i64 a∧Aside0 (impl_PatternIns__impl_ValidIns.l0 kq l0 (l0.length:Int) a=some r)∧Aside0 (kq≤k)∧Aside0 (Below w.heap.size w w'))
 case atStart=>exact⟨(0),sr,H',⟨Nat.le_refl _⟩,⟨sb⟩⟩
 case round=>(
 clear H'
 obtain⟨a,rfl,HA,x,HB⟩:=hrel
 cases gk with
 |zero=>exact absurd HA.out (by simp[impl_PatternIns__impl_ValidIns.l0])
 |succ k1=>(
 have H:=HA.out
 clear HA
 simp only[impl_PatternIns__impl_ValidIns.l0]at H
 by_cases i:a<(l0.length:Int)
 ·(
 rw[if_pos i]at H
 have c3b0:=zT i
 clear i
 by_cases n:0≤a
 ·(
 rw[if_pos n]at H
 have c4b0:=zT n
 clear n
 by_cases p:a<(l0.length:Int)
 ·(
 rw[if_pos p]at H
 have c5b0:=zT p
 clear p
 obtain⟨A,y,H⟩:=sO H
 by_cases q:A=true
 ·(
 subst q
 rewrite[if_pos rfl]at H
 have H':=zM H
 clear H
 have b:0≤(a:Int):=zzA
 have c:a<(l0.length:Int):=zzA
 obtain⟨B,s,j,l,m⟩:=at_T55 v.out a b c
 cases s
 replace j:=sX HB j
 replace l:=sX HB l
 replace m:=sX HB m
 replace b:=eq_true b
 replace c:=eq_true c
 go_wp2_with (first|((with_reducible refine gate_dst (N:=6) rfl ?_);refine sV (N:=6) (cs:= #[.int .i64 0,.int .i64 0,.string (⟨#[]⟩:ByteArray)]) (t:=55) ?_;intro u hg I hbox hb;have d:=zM (hbox);have D:=sG HB hg;have E:=sG HB hg;replace HB:=sB HB hb;clear hb hbox hg;obtain⟨J,K,L,M,O,P⟩:=cells3 d.out)|(go_at_call 34;(with_reducible refine(impl_ValidIns.calls k1 ((rd_T55 l0 a).f0) ((rd_T55 l0 a).f1) ((rd_T55 l0 a).f2) true _ y.out).mono ?_);rintro e Q ⟨rfl,hb⟩;replace d:=zM (blk_below (g:=u) (o:= .cells #[.int .i64 ((rd_T55 l0 a).f0),.int .i64 ((rd_T55 l0 a).f1),.string ((rd_T55 l0 a).f2)] 55 (0,0)) (by exact sP3 (sT d.out)) hb);replace HB:=sB HB hb;(try clear hb)))
 go_roundg k1
 case measure=>have:=x.out;omega
 case rel=>exact⟨(wrap64 (a+1)),sr,H',⟨by have:=x.out;omega⟩,⟨sb⟩⟩)
 replace q:=zB q
 subst q
 rewrite[if_neg zQ]at H
 obtain rfl:=zI H
 have b:0≤(a:Int):=zzA
 have c:a<(l0.length:Int):=zzA
 obtain⟨B,s,j,l,m⟩:=at_T55 v.out a b c
 cases s
 replace j:=sX HB j
 replace l:=sX HB l
 replace m:=sX HB m
 replace b:=eq_true b
 replace c:=eq_true c
 go_wp2_with (first|((with_reducible refine gate_dst (N:=6) rfl ?_);refine sV (N:=6) (cs:= #[.int .i64 0,.int .i64 0,.string (⟨#[]⟩:ByteArray)]) (t:=55) ?_;intro u hg R hbox hb;have d:=zM (hbox);have D:=sG HB hg;have E:=sG HB hg;replace HB:=sB HB hb;clear hb hbox hg;obtain⟨S,T,U,V,W,X⟩:=cells3 d.out)|(go_at_call 34;(with_reducible refine(impl_ValidIns.calls k1 ((rd_T55 l0 a).f0) ((rd_T55 l0 a).f1) ((rd_T55 l0 a).f2) false _ y.out).mono ?_);rintro e Y ⟨rfl,hb⟩;replace d:=zM (blk_below (g:=u) (o:= .cells #[.int .i64 ((rd_T55 l0 a).f0),.int .i64 ((rd_T55 l0 a).f1),.string ((rd_T55 l0 a).f2)] 55 (0,0)) (by exact sP3 (sT d.out)) hb);replace HB:=sB HB hb;(try clear hb)))
 go_ret
 exact⟨sq,sb⟩)
 rw[if_neg p]at H
 exact absurd H (by simp))
 rw[if_neg n]at H
 exact absurd H (by simp))
 rw[if_neg i]at H
 have c3b0:=zF i
 clear i
 obtain rfl:=zI H
 go_wp2
 go_ret
 exact⟨sq,sb⟩))
end Go.Proofs.Ytcppdkdnpmgpmaa.PFnExactEntryOf
