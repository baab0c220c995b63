/- Printed functions: spec_l11Node, spec_l11Valid, spec_ValidPattern. -/
import Derived.Test.YtdihlgkcpooadaaYIpP0
import Derived.Test.YtdihlgkcpooadaaYIpP4
import Derived.Test.YtdihlgkcpooadaaYIpP5
namespace Go.Proofs.Ytdihlgkcpooadaa.PFnExactIsPure
open Go.RowKit Go.Proofs.YtdihlgkcpooadaaG Go.Proofs.YtdihlgkcpooadaaW.PrintWords Go.Proofs.YtdihlgkcpooadaaW.PrintLast Go.Proofs.YtdihlgkcpooadaaW.PrintMore
attribute [local go_sem] max2_int min2_int max_two min_two max_three min_three max_four min_four
set_option linter.unusedVariables false
set_option linter.unusedSimpArgs false
def spec_l11Node.f (k:Nat) (a0_0:Int) (a0_1:Int) (a0_2:ByteArray) (l0_3:List (S36)):Option (Bool):=(spec_l00In.f a0_0 1 24).bind fun t154=>(if t154=true then((spec_l11Form.f k a0_0).bind fun bt155=>(if(l0_3.length:Int)=bt155.1 then(if bt155.2.toList=([115]:List UInt8)then(if a0_1=0 then(if(a0_2.size:Int)≤200 then(if a0_0=1 then(some true)else(some (!a0_2.toList.isEmpty)))else(some false))else(some false))else(if bt155.2.toList=([110]:List UInt8)then(if a0_2.toList=([]:List UInt8)then((spec_l00In.f a0_1 0 200).bind fun t157=>(some t157))else(some false))else(if bt155.2.toList=([120]:List UInt8)then(if a0_1=0 then((spec_IsName.f k a0_2).bind fun t158=>(some t158))else(some false))else(if a0_1=0 then(some (a0_2.toList.isEmpty))else(some false)))))else(some false)))else(some false))
set_option maxHeartbeats 8000000 in
set_option maxRecDepth 100000 in
theorem spec_l11Node.calls (k:Nat) (a0_0:Int) (a0_1:Int) (a0_2:ByteArray) (A0_3:Option Addr) (c0_3:Nat) (l0_3:List (S36)) (r:Bool) (w:World) (hr0_3:Kd.C k36 w A0_3 l0_3.length l0_3) (hc0_3:l0_3.length≤c0_3) (h:spec_l11Node.f k a0_0 a0_1 a0_2 l0_3=some r):
  Calls Try.prog 77 #[.agg #[.int .i64 a0_0,.int .i64 a0_1,.string a0_2,.slice A0_3 l0_3.length c0_3]] w fun e w'=>e= .returned (.bool r)∧Below w.heap.size w w':=by
 have J:=Try.underlying36
 have K:=zM hr0_3
 have L:=zM hc0_3
 clear hr0_3 hc0_3
 have HB:=zM (Below.refl w.heap.size w)
 have H:((spec_l00In.f a0_0 1 24).bind fun E=>(if E=true then((spec_l11Form.f k a0_0).bind fun B=>(if(l0_3.length:Int)=B.1 then(if B.2.toList=([115]:List UInt8)then(if a0_1=0 then(if(a0_2.size:Int)≤200 then(if a0_0=1 then(some true)else(some (!a0_2.toList.isEmpty)))else(some false))else(some false))else(if B.2.toList=([110]:List UInt8)then(if a0_2.toList=([]:List UInt8)then((spec_l00In.f a0_1 0 200).bind fun z=>(some z))else(some false))else(if B.2.toList=([120]:List UInt8)then(if a0_1=0 then((spec_IsName.f k a0_2).bind fun A=>(some A))else(some false))else(if a0_1=0 then(some (a0_2.toList.isEmpty))else(some false)))))else(some false)))else(some false)))=some r:=h
 clear h
 obtain⟨E,d,H⟩:=sO H
 by_cases D:E=true
 ·(
 subst D
 rewrite[if_pos rfl]at H
 replace H:=Option.bind_eq_some_iff.mp H
 obtain⟨⟨c,a⟩,F,H⟩:=H
 replace H:(if(l0_3.length:Int)=c then(if a.toList=([115]:List UInt8)then(if a0_1=0 then(if(a0_2.size:Int)≤200 then(if a0_0=1 then(some true)else(some (!a0_2.toList.isEmpty)))else(some false))else(some false))else(if a.toList=([110]:List UInt8)then(if a0_2.toList=([]:List UInt8)then((spec_l00In.f a0_1 0 200).bind fun z=>(some z))else(some false))else(if a.toList=([120]:List UInt8)then(if a0_1=0 then((spec_IsName.f k a0_2).bind fun A=>(some A))else(some false))else(if a0_1=0 then(some (a0_2.toList.isEmpty))else(some false)))))else(some false))=some r:=H
 have g:=zM F
 clear F
 by_cases n:(l0_3.length:Int)=c
 ·(
 rw[if_pos n]at H
 have c5b0:((l0_3.length:Int)==c)=true:=zE n
 have c5b1:((l0_3.length:Int) !=c)=false:=zY n
 clear n
 by_cases o:a.toList=([115]:List UInt8)
 ·(
 rw[if_pos o]at H
 have c6b0:(a.toList==([115]:List UInt8))=true:=zE o
 have c6b1:(a.toList !=([115]:List UInt8))=false:=zY o
 clear o
 by_cases p:a0_1=0
 ·(
 rw[if_pos p]at H
 have c7b0:(a0_1==0)=true:=zE p
 have c7b1:(a0_1 !=0)=false:=zY p
 clear p
 by_cases y:(a0_2.size:Int)≤200
 ·(
 rw[if_pos y]at H
 have c8b0:=zT y
 have c8b1:decide (a0_2.size≤200)=true:=zT (by omega)
 clear y
 by_cases q:a0_0=1
 ·(
 rw[if_pos q]at H
 have c9b0:(a0_0==1)=true:=zE q
 have c9b1:(a0_0 !=1)=false:=zY q
 clear q
 obtain rfl:=zI H
 go_enter Try.func77,Try.ntmps77
 go_wp2_with (first|((with_reducible refine gate_dst (N:=1) rfl ?_);(try(refine gate_guard (by rfl) ?_;dsimp only));refine sV (N:=1) (cs:= #[.int .i64 a0_0,.int .i64 a0_1,.string a0_2,.slice A0_3 l0_3.length c0_3]) (t:=36) ?_;intro i hg M hbox hb;have b:=zM (hbox);have j:=sG HB hg;have l:=sG HB hg;replace HB:=sB HB hb;clear hb hbox hg;obtain⟨O,P,Q,R,S,T,U,V⟩:=cells4 b.out)|((with_reducible refine gate_callee (f:=86) rfl ?_);refine sC (some 7) Try.func86 #[.int .i64 a0_0,.int .i64 1,.int .i64 24] (spec_l00In.calls a0_0 1 24 true _ d.out) ?_;rintro e w' ⟨rfl,⟨nd,rfl⟩⟩;refine⟨_,rfl,?_⟩)|((with_reducible refine gate_callee (f:=87) rfl ?_);refine sC (some 12) Try.func87 #[.int .i64 a0_0] (spec_l11Form.calls k a0_0 c a _ g.out) ?_;rintro e w' ⟨rfl,⟨nd,rfl⟩⟩;refine⟨_,rfl,?_⟩))
 go_ret
 exact⟨sq,sb⟩)
 rw[if_neg q]at H
 have c9b0:(a0_0==1)=false:=zN q
 have c9b1:(a0_0 !=1)=true:=zX q
 obtain rfl:=zI H
 go_enter Try.func77,Try.ntmps77
 go_wp2_with (first|((with_reducible refine gate_dst (N:=1) rfl ?_);(try(refine gate_guard (by rfl) ?_;dsimp only));refine sV (N:=1) (cs:= #[.int .i64 a0_0,.int .i64 a0_1,.string a0_2,.slice A0_3 l0_3.length c0_3]) (t:=36) ?_;intro i hg W hbox hb;have b:=zM (hbox);have j:=sG HB hg;have l:=sG HB hg;replace HB:=sB HB hb;clear hb hbox hg;obtain⟨X,Y,Z,aa,ab,ac,ad,ae⟩:=cells4 b.out)|((with_reducible refine gate_callee (f:=86) rfl ?_);refine sC (some 7) Try.func86 #[.int .i64 a0_0,.int .i64 1,.int .i64 24] (spec_l00In.calls a0_0 1 24 true _ d.out) ?_;rintro e w' ⟨rfl,⟨nd,rfl⟩⟩;refine⟨_,rfl,?_⟩)|((with_reducible refine gate_callee (f:=87) rfl ?_);refine sC (some 12) Try.func87 #[.int .i64 a0_0] (spec_l11Form.calls k a0_0 c a _ g.out) ?_;rintro e w' ⟨rfl,⟨nd,rfl⟩⟩;refine⟨_,rfl,?_⟩))
 go_ret
 exact⟨sq,sb⟩)
 rw[if_neg y]at H
 have c8b0:=zF y
 have c8b1:decide (a0_2.size≤200)=false:=zF (by omega)
 clear y
 obtain rfl:=zI H
 go_enter Try.func77,Try.ntmps77
 go_wp2_with (first|((with_reducible refine gate_dst (N:=1) rfl ?_);(try(refine gate_guard (by rfl) ?_;dsimp only));refine sV (N:=1) (cs:= #[.int .i64 a0_0,.int .i64 a0_1,.string a0_2,.slice A0_3 l0_3.length c0_3]) (t:=36) ?_;intro i hg af hbox hb;have b:=zM (hbox);have j:=sG HB hg;have l:=sG HB hg;replace HB:=sB HB hb;clear hb hbox hg;obtain⟨ag,ah,ai,aj,ak,al,am,an⟩:=cells4 b.out)|((with_reducible refine gate_callee (f:=86) rfl ?_);refine sC (some 7) Try.func86 #[.int .i64 a0_0,.int .i64 1,.int .i64 24] (spec_l00In.calls a0_0 1 24 true _ d.out) ?_;rintro e w' ⟨rfl,⟨nd,rfl⟩⟩;refine⟨_,rfl,?_⟩)|((with_reducible refine gate_callee (f:=87) rfl ?_);refine sC (some 12) Try.func87 #[.int .i64 a0_0] (spec_l11Form.calls k a0_0 c a _ g.out) ?_;rintro e w' ⟨rfl,⟨nd,rfl⟩⟩;refine⟨_,rfl,?_⟩))
 go_ret
 exact⟨sq,sb⟩)
 rw[if_neg p]at H
 have c7b0:(a0_1==0)=false:=zN p
 have c7b1:(a0_1 !=0)=true:=zX p
 obtain rfl:=zI H
 go_enter Try.func77,Try.ntmps77
 go_wp2_with (first|((with_reducible refine gate_dst (N:=1) rfl ?_);(try(refine gate_guard (by rfl) ?_;dsimp only));refine sV (N:=1) (cs:= #[.int .i64 a0_0,.int .i64 a0_1,.string a0_2,.slice A0_3 l0_3.length c0_3]) (t:=36) ?_;intro i hg ao hbox hb;have b:=zM (hbox);have j:=sG HB hg;have l:=sG HB hg;replace HB:=sB HB hb;clear hb hbox hg;obtain⟨ap,aq,ar,au,av,aw,ax,ay⟩:=cells4 b.out)|((with_reducible refine gate_callee (f:=86) rfl ?_);refine sC (some 7) Try.func86 #[.int .i64 a0_0,.int .i64 1,.int .i64 24] (spec_l00In.calls a0_0 1 24 true _ d.out) ?_;rintro e w' ⟨rfl,⟨nd,rfl⟩⟩;refine⟨_,rfl,?_⟩)|((with_reducible refine gate_callee (f:=87) rfl ?_);refine sC (some 12) Try.func87 #[.int .i64 a0_0] (spec_l11Form.calls k a0_0 c a _ g.out) ?_;rintro e w' ⟨rfl,⟨nd,rfl⟩⟩;refine⟨_,rfl,?_⟩))
 go_ret
 exact⟨sq,sb⟩)
 rw[if_neg o]at H
 have c6b0:(a.toList==([115]:List UInt8))=false:=zN o
 have c6b1:(a.toList !=([115]:List UInt8))=true:=zX o
 by_cases s:a.toList=([110]:List UInt8)
 ·(
 rw[if_pos s]at H
 have c18b0:(a.toList==([110]:List UInt8))=true:=zE s
 have c18b1:(a.toList !=([110]:List UInt8))=false:=zY s
 clear s
 by_cases m:a0_2.toList=([]:List UInt8)
 ·(
 rw[if_pos m]at H
 have c19b0:(a0_2.toList==([]:List UInt8))=true:=zE m
 have c19b1:(a0_2.toList !=([]:List UInt8))=false:=zY m
 have c19b2:a0_2.toList.isEmpty=true:=by simpa using m
 clear m
 obtain⟨z,G,H⟩:=sO H
 obtain rfl:=zI H
 go_enter Try.func77,Try.ntmps77
 go_wp2_with (first|((with_reducible refine gate_dst (N:=1) rfl ?_);(try(refine gate_guard (by rfl) ?_;dsimp only));refine sV (N:=1) (cs:= #[.int .i64 a0_0,.int .i64 a0_1,.string a0_2,.slice A0_3 l0_3.length c0_3]) (t:=36) ?_;intro i hg az hbox hb;have b:=zM (hbox);have j:=sG HB hg;have l:=sG HB hg;replace HB:=sB HB hb;clear hb hbox hg;obtain⟨aA,aB,aC,aD,aE,aF,aG,aH⟩:=cells4 b.out)|((with_reducible refine gate_callee (f:=86) rfl ?_);refine sC (some 7) Try.func86 #[.int .i64 a0_0,.int .i64 1,.int .i64 24] (spec_l00In.calls a0_0 1 24 true _ d.out) ?_;rintro e w' ⟨rfl,⟨nd,rfl⟩⟩;refine⟨_,rfl,?_⟩)|((with_reducible refine gate_callee (f:=87) rfl ?_);refine sC (some 12) Try.func87 #[.int .i64 a0_0] (spec_l11Form.calls k a0_0 c a _ g.out) ?_;rintro e w' ⟨rfl,⟨nd,rfl⟩⟩;refine⟨_,rfl,?_⟩)|(go_at_call 86;(with_reducible refine(spec_l00In.calls a0_1 0 200 z _ G.out).mono ?_);rintro e w' ⟨rfl,⟨nd,rfl⟩⟩))
 go_ret
 exact⟨sq,sb⟩)
 rw[if_neg m]at H
 have c19b0:(a0_2.toList==([]:List UInt8))=false:=zN m
 have c19b1:(a0_2.toList !=([]:List UInt8))=true:=zX m
 have c19b2:a0_2.toList.isEmpty=false:=by simpa using m
 obtain rfl:=zI H
 go_enter Try.func77,Try.ntmps77
 go_wp2_with (first|((with_reducible refine gate_dst (N:=1) rfl ?_);(try(refine gate_guard (by rfl) ?_;dsimp only));refine sV (N:=1) (cs:= #[.int .i64 a0_0,.int .i64 a0_1,.string a0_2,.slice A0_3 l0_3.length c0_3]) (t:=36) ?_;intro i hg aI hbox hb;have b:=zM (hbox);have j:=sG HB hg;have l:=sG HB hg;replace HB:=sB HB hb;clear hb hbox hg;obtain⟨aJ,aK,aL,aM,aN,aO,aP,aQ⟩:=cells4 b.out)|((with_reducible refine gate_callee (f:=86) rfl ?_);refine sC (some 7) Try.func86 #[.int .i64 a0_0,.int .i64 1,.int .i64 24] (spec_l00In.calls a0_0 1 24 true _ d.out) ?_;rintro e w' ⟨rfl,⟨nd,rfl⟩⟩;refine⟨_,rfl,?_⟩)|((with_reducible refine gate_callee (f:=87) rfl ?_);refine sC (some 12) Try.func87 #[.int .i64 a0_0] (spec_l11Form.calls k a0_0 c a _ g.out) ?_;rintro e w' ⟨rfl,⟨nd,rfl⟩⟩;refine⟨_,rfl,?_⟩))
 go_ret
 exact⟨sq,sb⟩)
 rw[if_neg s]at H
 have c18b0:(a.toList==([110]:List UInt8))=false:=zN s
 have c18b1:(a.toList !=([110]:List UInt8))=true:=zX s
 by_cases u:a.toList=([120]:List UInt8)
 ·(
 rw[if_pos u]at H
 have c25b0:(a.toList==([120]:List UInt8))=true:=zE u
 have c25b1:(a.toList !=([120]:List UInt8))=false:=zY u
 clear u
 by_cases v:a0_1=0
 ·(
 rw[if_pos v]at H
 have c26b0:(a0_1==0)=true:=zE v
 have c26b1:(a0_1 !=0)=false:=zY v
 clear v
 obtain⟨A,I,H⟩:=sO H
 obtain rfl:=zI H
 go_enter Try.func77,Try.ntmps77
 go_wp2_with (first|((with_reducible refine gate_dst (N:=1) rfl ?_);(try(refine gate_guard (by rfl) ?_;dsimp only));refine sV (N:=1) (cs:= #[.int .i64 a0_0,.int .i64 a0_1,.string a0_2,.slice A0_3 l0_3.length c0_3]) (t:=36) ?_;intro i hg aR hbox hb;have b:=zM (hbox);have j:=sG HB hg;have l:=sG HB hg;replace HB:=sB HB hb;clear hb hbox hg;obtain⟨aS,aT,aU,aV,aW,aX,aY,aZ⟩:=cells4 b.out)|((with_reducible refine gate_callee (f:=86) rfl ?_);refine sC (some 7) Try.func86 #[.int .i64 a0_0,.int .i64 1,.int .i64 24] (spec_l00In.calls a0_0 1 24 true _ d.out) ?_;rintro e w' ⟨rfl,⟨nd,rfl⟩⟩;refine⟨_,rfl,?_⟩)|((with_reducible refine gate_callee (f:=87) rfl ?_);refine sC (some 12) Try.func87 #[.int .i64 a0_0] (spec_l11Form.calls k a0_0 c a _ g.out) ?_;rintro e w' ⟨rfl,⟨nd,rfl⟩⟩;refine⟨_,rfl,?_⟩)|(go_at_call 23;(with_reducible refine(spec_IsName.calls k a0_2 A _ I.out).mono ?_);rintro e w' ⟨rfl,⟨nd,rfl⟩⟩))
 go_ret
 exact⟨sq,sb⟩)
 rw[if_neg v]at H
 have c26b0:(a0_1==0)=false:=zN v
 have c26b1:(a0_1 !=0)=true:=zX v
 obtain rfl:=zI H
 go_enter Try.func77,Try.ntmps77
 go_wp2_with (first|((with_reducible refine gate_dst (N:=1) rfl ?_);(try(refine gate_guard (by rfl) ?_;dsimp only));refine sV (N:=1) (cs:= #[.int .i64 a0_0,.int .i64 a0_1,.string a0_2,.slice A0_3 l0_3.length c0_3]) (t:=36) ?_;intro i hg a0 hbox hb;have b:=zM (hbox);have j:=sG HB hg;have l:=sG HB hg;replace HB:=sB HB hb;clear hb hbox hg;obtain⟨a2,a3,a4,a5,a6,a7,a8,a9⟩:=cells4 b.out)|((with_reducible refine gate_callee (f:=86) rfl ?_);refine sC (some 7) Try.func86 #[.int .i64 a0_0,.int .i64 1,.int .i64 24] (spec_l00In.calls a0_0 1 24 true _ d.out) ?_;rintro e w' ⟨rfl,⟨nd,rfl⟩⟩;refine⟨_,rfl,?_⟩)|((with_reducible refine gate_callee (f:=87) rfl ?_);refine sC (some 12) Try.func87 #[.int .i64 a0_0] (spec_l11Form.calls k a0_0 c a _ g.out) ?_;rintro e w' ⟨rfl,⟨nd,rfl⟩⟩;refine⟨_,rfl,?_⟩))
 go_ret
 exact⟨sq,sb⟩)
 rw[if_neg u]at H
 have c25b0:(a.toList==([120]:List UInt8))=false:=zN u
 have c25b1:(a.toList !=([120]:List UInt8))=true:=zX u
 by_cases x:a0_1=0
 ·(
 rw[if_pos x]at H
 have c32b0:(a0_1==0)=true:=zE x
 have c32b1:(a0_1 !=0)=false:=zY x
 clear x
 obtain rfl:=zI H
 go_enter Try.func77,Try.ntmps77
 go_wp2_with (first|((with_reducible refine gate_dst (N:=1) rfl ?_);(try(refine gate_guard (by rfl) ?_;dsimp only));refine sV (N:=1) (cs:= #[.int .i64 a0_0,.int .i64 a0_1,.string a0_2,.slice A0_3 l0_3.length c0_3]) (t:=36) ?_;intro i hg ba hbox hb;have b:=zM (hbox);have j:=sG HB hg;have l:=sG HB hg;replace HB:=sB HB hb;clear hb hbox hg;obtain⟨bb,bc,bd,be,bf,bg,bh,bi⟩:=cells4 b.out)|((with_reducible refine gate_callee (f:=86) rfl ?_);refine sC (some 7) Try.func86 #[.int .i64 a0_0,.int .i64 1,.int .i64 24] (spec_l00In.calls a0_0 1 24 true _ d.out) ?_;rintro e w' ⟨rfl,⟨nd,rfl⟩⟩;refine⟨_,rfl,?_⟩)|((with_reducible refine gate_callee (f:=87) rfl ?_);refine sC (some 12) Try.func87 #[.int .i64 a0_0] (spec_l11Form.calls k a0_0 c a _ g.out) ?_;rintro e w' ⟨rfl,⟨nd,rfl⟩⟩;refine⟨_,rfl,?_⟩))
 go_ret
 exact⟨sq,sb⟩)
 rw[if_neg x]at H
 have c32b0:(a0_1==0)=false:=zN x
 have c32b1:(a0_1 !=0)=true:=zX x
 obtain rfl:=zI H
 go_enter Try.func77,Try.ntmps77
 go_wp2_with (first|((with_reducible refine gate_dst (N:=1) rfl ?_);(try(refine gate_guard (by rfl) ?_;dsimp only));refine sV (N:=1) (cs:= #[.int .i64 a0_0,.int .i64 a0_1,.string a0_2,.slice A0_3 l0_3.length c0_3]) (t:=36) ?_;intro i hg bj hbox hb;have b:=zM (hbox);have j:=sG HB hg;have l:=sG HB hg;replace HB:=sB HB hb;clear hb hbox hg;obtain⟨bk,bl,bm,bn,bo,bp,bq,br⟩:=cells4 b.out)|((with_reducible refine gate_callee (f:=86) rfl ?_);refine sC (some 7) Try.func86 #[.int .i64 a0_0,.int .i64 1,.int .i64 24] (spec_l00In.calls a0_0 1 24 true _ d.out) ?_;rintro e w' ⟨rfl,⟨nd,rfl⟩⟩;refine⟨_,rfl,?_⟩)|((with_reducible refine gate_callee (f:=87) rfl ?_);refine sC (some 12) Try.func87 #[.int .i64 a0_0] (spec_l11Form.calls k a0_0 c a _ g.out) ?_;rintro e w' ⟨rfl,⟨nd,rfl⟩⟩;refine⟨_,rfl,?_⟩))
 go_ret
 exact⟨sq,sb⟩)
 rw[if_neg n]at H
 have c5b0:((l0_3.length:Int)==c)=false:=zN n
 have c5b1:((l0_3.length:Int) !=c)=true:=zX n
 obtain rfl:=zI H
 go_enter Try.func77,Try.ntmps77
 go_wp2_with (first|((with_reducible refine gate_dst (N:=1) rfl ?_);(try(refine gate_guard (by rfl) ?_;dsimp only));refine sV (N:=1) (cs:= #[.int .i64 a0_0,.int .i64 a0_1,.string a0_2,.slice A0_3 l0_3.length c0_3]) (t:=36) ?_;intro i hg bs hbox hb;have b:=zM (hbox);have j:=sG HB hg;have l:=sG HB hg;replace HB:=sB HB hb;clear hb hbox hg;obtain⟨bt,bu,bv,bw,bx,bz,bA,bB⟩:=cells4 b.out)|((with_reducible refine gate_callee (f:=86) rfl ?_);refine sC (some 7) Try.func86 #[.int .i64 a0_0,.int .i64 1,.int .i64 24] (spec_l00In.calls a0_0 1 24 true _ d.out) ?_;rintro e w' ⟨rfl,⟨nd,rfl⟩⟩;refine⟨_,rfl,?_⟩)|((with_reducible refine gate_callee (f:=87) rfl ?_);refine sC (some 12) Try.func87 #[.int .i64 a0_0] (spec_l11Form.calls k a0_0 c a _ g.out) ?_;rintro e w' ⟨rfl,⟨nd,rfl⟩⟩;refine⟨_,rfl,?_⟩))
 go_ret
 exact⟨sq,sb⟩)
 replace D:=zB D
 subst D
 rewrite[if_neg zQ]at H
 obtain rfl:=zI H
 go_enter Try.func77,Try.ntmps77
 go_wp2_with (first|((with_reducible refine gate_dst (N:=1) rfl ?_);(try(refine gate_guard (by rfl) ?_;dsimp only));refine sV (N:=1) (cs:= #[.int .i64 a0_0,.int .i64 a0_1,.string a0_2,.slice A0_3 l0_3.length c0_3]) (t:=36) ?_;intro i hg bC hbox hb;have b:=zM (hbox);have j:=sG HB hg;have l:=sG HB hg;replace HB:=sB HB hb;clear hb hbox hg;obtain⟨bD,bE,bF,bG,bH,bI,bJ,bK⟩:=cells4 b.out)|((with_reducible refine gate_callee (f:=86) rfl ?_);refine sC (some 7) Try.func86 #[.int .i64 a0_0,.int .i64 1,.int .i64 24] (spec_l00In.calls a0_0 1 24 false _ d.out) ?_;rintro e w' ⟨rfl,⟨nd,rfl⟩⟩;refine⟨_,rfl,?_⟩))
 go_ret
 exact⟨sq,sb⟩
mutual
def spec_l11Valid.j0 : Nat → Int → Bool → Int → Int → ByteArray → List (S36) → Option (Int)
 |0,_,_,_,_,_,_=>none
 |k+1,x1,x14,x160000,x160001,x160002,x160003=>if x14=true then(some (-1))else(spec_l11Valid.l0 k x1 1 0 x160000 x160001 x160002 x160003)
def spec_l11Valid.l0 : Nat → Int → Int → Int → Int → Int → ByteArray → List (S36) → Option (Int)
 |0,_,_,_,_,_,_,_=>none
 |k+1,x1,x5,x6,x160000,x160001,x160002,x160003=>if x6<(x160003.length:Int)then(if 0≤x6 then((spec_l11Valid.f k ((rd_T36 x160003 x6).f0) ((rd_T36 x160003 x6).f1) ((rd_T36 x160003 x6).f2) ((rd_T36 x160003 x6).f3) (wrap64 (x1-x5))).bind fun t162=>(if t162<0 then(some (-1))else(spec_l11Valid.l0 k x1 (wrap64 (x5+t162)) (wrap64 (x6+1)) x160000 x160001 x160002 x160003)))else(none))else(some x5)
def spec_l11Valid.f : Nat → Int → Int → ByteArray → List (S36) → Int → Option (Int)
 |0,_,_,_,_,_=>none
 |k+1,a0_0,a0_1,a0_2,l0_3,a1=>if a1<1 then(spec_l11Valid.j0 k a1 true a0_0 a0_1 a0_2 l0_3)else((spec_l11Node.f k a0_0 a0_1 a0_2 l0_3).bind fun t160=>(spec_l11Valid.j0 k a1 (!t160) a0_0 a0_1 a0_2 l0_3))
end
set_option maxHeartbeats 8000000 in
set_option maxRecDepth 100000 in
theorem spec_l11Valid.calls (k:Nat):∀(a0_0:Int) (a0_1:Int) (a0_2:ByteArray) (A0_3:Option Addr) (c0_3:Nat) (l0_3:List (S36)) (a1:Int) (r:Int) (w:World) (hr0_3:Kd.C k36 w A0_3 l0_3.length l0_3) (hc0_3:l0_3.length≤c0_3) (h:spec_l11Valid.f k a0_0 a0_1 a0_2 l0_3 a1=some r),
  Calls Try.prog 49 #[.agg #[.int .i64 a0_0,.int .i64 a0_1,.string a0_2,.slice A0_3 l0_3.length c0_3],.int .i64 a1] w fun e w'=>e= .returned (.int .i64 r)∧Below w.heap.size w w':=by
 induction k using Nat.strongRecOn with
 |_ k ih=>
 intro a0_0 a0_1 a0_2 A0_3 c0_3 l0_3 a1 r w hr0_3 hc0_3 h
 cases k with
 |zero=>exact absurd h (by simp[spec_l11Valid.f])
 |succ k=>
 simp only[spec_l11Valid.f]at h
 have U:=Try.underlying36
 have D:=zM hr0_3
 have O:=zM hc0_3
 clear hr0_3 hc0_3
 have HB:=zM (Below.refl w.heap.size w)
 have H:(if a1<1 then(spec_l11Valid.j0 k a1 true a0_0 a0_1 a0_2 l0_3)else((spec_l11Node.f k a0_0 a0_1 a0_2 l0_3).bind fun v=>(spec_l11Valid.j0 k a1 (!v) a0_0 a0_1 a0_2 l0_3)))=some r:=h
 clear h
 have E:=zM H
 clear H
 go_enter Try.func49,Try.ntmps49
 go_upto_region 1 with(first|((with_reducible refine gate_dst (N:=2) rfl ?_);refine sV (N:=2) (cs:= #[.int .i64 a0_0,.int .i64 a0_1,.string a0_2,.slice A0_3 l0_3.length c0_3]) (t:=36) ?_;intro L hg V hbox hb;have b:=zM (hbox);have W:=sG HB hg;have X:=sG HB hg;replace HB:=sB HB hb;clear hb hbox hg))
 (try simp only[zP])
 go_cut [14] (fun P wc=>∃(kq:Nat) (x:Bool),P= .bool x∧Aside0 (spec_l11Valid.j0 kq a1 x a0_0 a0_1 a0_2 l0_3=some r)∧Aside0 (kq≤k)∧Aside0 (wc.heap[L]?=some (.cells #[.int .i64 a0_0,.int .i64 a0_1,.string a0_2,(.slice A0_3 l0_3.length c0_3)] 36 (0,0)))∧Aside0 (Below w.heap.size w wc))
 case first=>(
 have H:=E.out
 clear E
 by_cases i:a1<1
 ·(
 rw[if_pos i]at H
 have c5b0:=zT i
 clear i
 (first|rw[c5b0]|(simp only[i64_w,i32_w];rw[c5b0])|rw[c5b2]|skip)
 have H':=zM H
 clear H
 go_wp2
 go_meet
 case rel=>exact⟨_,(true),sr,H',⟨by first|omega|exact Nat.le_refl _⟩,⟨by exact sT b.out⟩,⟨sb⟩⟩)
 rw[if_neg i]at H
 have c5b0:=zF i
 clear i
 (first|rw[c5b0]|(simp only[i64_w,i32_w];rw[c5b0])|rw[c5b2]|skip)
 obtain⟨v,Q,H⟩:=sO H
 have H':=zM H
 clear H
 obtain⟨Y,Z,aa,ab,ac,ad,ae,af⟩:=cells4 b.out
 go_wp2_with (first|(go_at_call 77;(with_reducible refine(spec_l11Node.calls k a0_0 a0_1 a0_2 _ _ l0_3 v _ ?side1 ?side2 Q.out).mono ?_);(case side1=>exact sD (zC D.out HB.out));(case side2=>exact O.out);rintro e w8 ⟨rfl,hb⟩;replace b:=sK b hb;replace HB:=sB HB hb;(try clear hb)))
 go_meet
 case rel=>exact⟨_,(!v),sr,H',⟨by first|omega|exact Nat.le_refl _⟩,⟨by exact sT b.out⟩,⟨sb⟩⟩)
 case rest=>(
 clear E
 obtain⟨kq,x,rfl,HA,y,b,HB⟩:=hcut
 cases kq with
 |zero=>exact absurd HA.out (by simp[spec_l11Valid.j0])
 |succ kj2=>(
 have H:=HA.out
 clear HA
 simp only[spec_l11Valid.j0]at H
 by_cases m:x=true
 ·(
 subst m
 rewrite[if_pos rfl]at H
 obtain rfl:=zI H
 go_wp2
 go_ret
 exact⟨sq,sb⟩)
 replace m:=zB m
 subst m
 rewrite[if_neg zQ]at H
 have H':=zM H
 clear H
 go_wp2
 go_loopg [5,6] kj2 (fun kq R S w'=>∃(c:Int) (a:Int),R= .int .i64 c∧S= .int .i64 a∧Aside0 (spec_l11Valid.l0 kq a1 c a a0_0 a0_1 a0_2 l0_3=some r)∧Aside0 (kq≤kj2)∧Aside0 (w'.heap[L]?=some (.cells #[.int .i64 a0_0,.int .i64 a0_1,.string a0_2,(.slice A0_3 l0_3.length c0_3)] 36 (0,0)))∧Aside0 (Below w.heap.size w w'))
 case atStart=>exact⟨(1),(0),sr,sr,H',⟨Nat.le_refl _⟩,⟨by exact sT b.out⟩,⟨sb⟩⟩
 case round=>(
 clear H'
 try clear m
 obtain⟨c,a,rfl,rfl,HA,z,b,HB⟩:=hrel
 cases gk with
 |zero=>exact absurd HA.out (by simp[spec_l11Valid.l0])
 |succ k2=>(
 have H:=HA.out
 clear HA
 simp only[spec_l11Valid.l0]at H
 by_cases j:a<(l0_3.length:Int)
 ·(
 rw[if_pos j]at H
 have c10b0:=zT j
 clear j
 by_cases A:0≤a
 ·(
 rw[if_pos A]at H
 have c11b0:=zT A
 clear A
 obtain⟨B,M,H⟩:=sO H
 by_cases l:B<0
 ·(
 rw[if_pos l]at H
 have c13b0:=zT l
 clear l
 obtain rfl:=zI H
 obtain⟨ag,ah,ai,aj,ak,al,am,an⟩:=cells4 b.out
 have d:0≤(a:Int):=zzA
 have g:a<(l0_3.length:Int):=zzA
 obtain⟨T,F,G,I,n,o,p,q,s,u⟩:=at_T36 D.out a d g
 cases I
 replace n:=sX HB n
 replace o:=sX HB o
 replace p:=sX HB p
 replace q:=sX HB q
 have J:=zM u
 have K:=zM s
 clear u s
 replace d:=eq_true d
 replace g:=eq_true g
 go_wp2_with (first|((with_reducible refine gate_callee (f:=49) rfl ?_);refine goesL_ (some 30) rfl rfl Try.func49 (by kernel_rfl) rfl #[.agg #[.int .i64 ((rd_T36 l0_3 a).f0),.int .i64 ((rd_T36 l0_3 a).f1),.string ((rd_T36 l0_3 a).f2),.slice F ((rd_T36 l0_3 a).f3).length G],.int .i64 (wrap64 (a1-c))] rfl (by(try simp only[List.map_toArray,List.map_cons,List.map_nil]);first|done|rfl|(simp only[List.length_drop,List.length_take];rfl)) ?_;(with_reducible refine(ih k2 (by have:=y.out;have:=z.out;omega) ((rd_T36 l0_3 a).f0) ((rd_T36 l0_3 a).f1) ((rd_T36 l0_3 a).f2) _ _ ((rd_T36 l0_3 a).f3) (wrap64 (a1-c)) B _ ?side1 ?side2 M.out).mono ?_);(case side1=>exact sD (zC J.out HB.out));(case side2=>exact K.out);rintro e ao ⟨rfl,hb⟩;refine⟨_,rfl,?_⟩;replace b:=sK b hb;replace HB:=sB HB hb;(try clear hb)))
 go_ret
 exact⟨sq,sb⟩)
 rw[if_neg l]at H
 have c13b0:=zF l
 clear l
 have H':=zM H
 clear H
 obtain⟨ap,aq,ar,au,av,aw,ax,ay⟩:=cells4 b.out
 have d:0≤(a:Int):=zzA
 have g:a<(l0_3.length:Int):=zzA
 obtain⟨T,F,G,I,n,o,p,q,s,u⟩:=at_T36 D.out a d g
 cases I
 replace n:=sX HB n
 replace o:=sX HB o
 replace p:=sX HB p
 replace q:=sX HB q
 have J:=zM u
 have K:=zM s
 clear u s
 replace d:=eq_true d
 replace g:=eq_true g
 go_wp2_with (first|((with_reducible refine gate_callee (f:=49) rfl ?_);refine goesL_ (some 30) rfl rfl Try.func49 (by kernel_rfl) rfl #[.agg #[.int .i64 ((rd_T36 l0_3 a).f0),.int .i64 ((rd_T36 l0_3 a).f1),.string ((rd_T36 l0_3 a).f2),.slice F ((rd_T36 l0_3 a).f3).length G],.int .i64 (wrap64 (a1-c))] rfl (by(try simp only[List.map_toArray,List.map_cons,List.map_nil]);first|done|rfl|(simp only[List.length_drop,List.length_take];rfl)) ?_;(with_reducible refine(ih k2 (by have:=y.out;have:=z.out;omega) ((rd_T36 l0_3 a).f0) ((rd_T36 l0_3 a).f1) ((rd_T36 l0_3 a).f2) _ _ ((rd_T36 l0_3 a).f3) (wrap64 (a1-c)) B _ ?side1 ?side2 M.out).mono ?_);(case side1=>exact sD (zC J.out HB.out));(case side2=>exact K.out);rintro e az ⟨rfl,hb⟩;refine⟨_,rfl,?_⟩;replace b:=sK b hb;replace HB:=sB HB hb;(try clear hb)))
 go_roundg k2
 case measure=>have:=y.out;have:=z.out;omega
 case rel=>exact⟨(wrap64 (c+B)),(wrap64 (a+1)),sr,sr,H',⟨by have:=y.out;have:=z.out;omega⟩,⟨by exact sT b.out⟩,⟨sb⟩⟩)
 rw[if_neg A]at H
 exact absurd H (by simp))
 rw[if_neg j]at H
 have c10b0:=zF j
 clear j
 obtain rfl:=zI H
 obtain⟨aA,aB,aC,aD,aE,aF,aG,aH⟩:=cells4 b.out
 go_wp2
 go_ret
 exact⟨sq,sb⟩))))
def spec_ValidPattern.f (k:Nat) (a0_0:Int) (a0_1:Int) (a0_2:ByteArray) (l0_3:List (S36)):Option (Bool):=(spec_l11Valid.f k a0_0 a0_1 a0_2 l0_3 60).bind fun t164=>(some (decide (t164>0)))
set_option maxHeartbeats 8000000 in
set_option maxRecDepth 100000 in
theorem spec_ValidPattern.calls (k:Nat) (a0_0:Int) (a0_1:Int) (a0_2:ByteArray) (A0_3:Option Addr) (c0_3:Nat) (l0_3:List (S36)) (r:Bool) (w:World) (hr0_3:Kd.C k36 w A0_3 l0_3.length l0_3) (hc0_3:l0_3.length≤c0_3) (h:spec_ValidPattern.f k a0_0 a0_1 a0_2 l0_3=some r):
  Calls Try.prog 24 #[.agg #[.int .i64 a0_0,.int .i64 a0_1,.string a0_2,.slice A0_3 l0_3.length c0_3]] w fun e w'=>e= .returned (.bool r)∧Below w.heap.size w w':=by
 have i:=Try.underlying36
 have c:=zM hr0_3
 have d:=zM hc0_3
 clear hr0_3 hc0_3
 have HB:=zM (Below.refl w.heap.size w)
 have H:((spec_l11Valid.f k a0_0 a0_1 a0_2 l0_3 60).bind fun a=>(some (decide (a>0))))=some r:=h
 clear h
 obtain⟨a,g,H⟩:=sO H
 obtain rfl:=zI H
 go_enter Try.func24,Try.ntmps24
 go_wp2_with (first|((with_reducible refine gate_dst (N:=1) rfl ?_);refine sV (N:=1) (cs:= #[.int .i64 a0_0,.int .i64 a0_1,.string a0_2,.slice A0_3 l0_3.length c0_3]) (t:=36) ?_;intro j hg l hbox hb;have b:=zM (hbox);have m:=sG HB hg;have n:=sG HB hg;replace HB:=sB HB hb;clear hb hbox hg;obtain⟨o,p,q,s,u,v,x,y⟩:=cells4 b.out)|((with_reducible refine gate_callee (f:=49) rfl ?_);refine sC (some 4) Try.func49 #[.agg #[.int .i64 a0_0,.int .i64 a0_1,.string a0_2,.slice A0_3 l0_3.length c0_3],.int .i64 60] (spec_l11Valid.calls k a0_0 a0_1 a0_2 _ _ l0_3 60 a _ ?side1 ?side2 g.out) ?_;(case side1=>exact sD (zC c.out HB.out));(case side2=>exact d.out);rintro e z ⟨rfl,hb⟩;refine⟨_,rfl,?_⟩;replace b:=sK b hb;replace HB:=sB HB hb;(try clear hb)))
 go_ret
 exact⟨sq,sb⟩
end Go.Proofs.Ytdihlgkcpooadaa.PFnExactIsPure
