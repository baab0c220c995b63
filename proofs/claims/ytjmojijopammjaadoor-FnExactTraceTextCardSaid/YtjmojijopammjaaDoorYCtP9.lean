/- Printed functions: spec_l06Plain, spec_ValidValue. -/
import Derived.Test.YtjmojijopammjaaDoorYCtP0
import Derived.Test.YtjmojijopammjaaDoorYCtP7
import Derived.Test.YtjmojijopammjaaDoorYCtP8
namespace Go.Proofs.YtjmojijopammjaaDoor.PFnExactCaptureText
open Go.RowKit Go.Proofs.YtjmojijopammjaaDoorG Go.Proofs.YtjmojijopammjaaDoorW.PrintWords Go.Proofs.YtjmojijopammjaaDoorW.PrintLast Go.Proofs.YtjmojijopammjaaDoorW.PrintMore
attribute [local go_sem] max2_int min2_int max_two min_two max_three min_three max_four min_four
set_option linter.unusedVariables false
set_option linter.unusedSimpArgs false
def spec_l06Plain.f (a0_0:Int) (a0_1:Int) (a0_2:ByteArray) (a0_3:Int) (a1:Bool) (a2:Bool) (a3:Bool):Option (Bool):=if a1=true then(if a2=true then(if a3=true then(some true)else(some (a0_3==0)))else(if a0_2.toList=([]:List UInt8)then(if a3=true then(some true)else(some (a0_3==0)))else(some false)))else(if a0_1=0 then(if a2=true then(if a3=true then(some true)else(some (a0_3==0)))else(if a0_2.toList=([]:List UInt8)then(if a3=true then(some true)else(some (a0_3==0)))else(some false)))else(some false))
set_option maxHeartbeats 8000000 in
set_option maxRecDepth 100000 in
theorem spec_l06Plain.calls (a0_0:Int) (a0_1:Int) (a0_2:ByteArray) (a0_3:Int) (a1:Bool) (a2:Bool) (a3:Bool) (r:Bool) (w:World) (h:spec_l06Plain.f a0_0 a0_1 a0_2 a0_3 a1 a2 a3=some r):
  Calls Tryd.prog 89 #[.agg #[.int .i64 a0_0,.int .i64 a0_1,.string a0_2,.int .i64 a0_3],.bool a1,.bool a2,.bool a3] w fun e w'=>e= .returned (.bool r)∧Below w.heap.size w w':=by
 have u:=Tryd.underlying40
 have HB:=zM (Below.refl w.heap.size w)
 have H:(if a1=true then(if a2=true then(if a3=true then(some true)else(some (a0_3==0)))else(if a0_2.toList=([]:List UInt8)then(if a3=true then(some true)else(some (a0_3==0)))else(some false)))else(if a0_1=0 then(if a2=true then(if a3=true then(some true)else(some (a0_3==0)))else(if a0_2.toList=([]:List UInt8)then(if a3=true then(some true)else(some (a0_3==0)))else(some false)))else(some false)))=some r:=h
 clear h
 by_cases l:a1=true
 ·(
 subst l
 rewrite[if_pos rfl]at H
 by_cases m:a2=true
 ·(
 subst m
 rewrite[if_pos rfl]at H
 by_cases n:a3=true
 ·(
 subst n
 rewrite[if_pos rfl]at H
 obtain rfl:=zI H
 go_enter Tryd.func89,Tryd.ntmps89
 go_wp2_with (first|((with_reducible refine gate_dst (N:=4) rfl ?_);refine sV (N:=4) (cs:= #[.int .i64 a0_0,.int .i64 a0_1,.string a0_2,.int .i64 a0_3]) (t:=40) ?_;intro b hg v hbox hb;have a:=zM (hbox);have c:=sG HB hg;have d:=sG HB hg;replace HB:=sB HB hb;clear hb hbox hg))
 go_ret
 exact⟨sq,sb⟩)
 replace n:=zB n
 subst n
 rewrite[if_neg zQ]at H
 obtain rfl:=zI H
 go_enter Tryd.func89,Tryd.ntmps89
 go_wp2_with (first|((with_reducible refine gate_dst (N:=4) rfl ?_);refine sV (N:=4) (cs:= #[.int .i64 a0_0,.int .i64 a0_1,.string a0_2,.int .i64 a0_3]) (t:=40) ?_;intro b hg x hbox hb;have a:=zM (hbox);have c:=sG HB hg;have d:=sG HB hg;replace HB:=sB HB hb;clear hb hbox hg;obtain⟨y,z,A,B,C,D,E,F⟩:=cells4 a.out))
 go_ret
 exact⟨sq,sb⟩)
 replace m:=zB m
 subst m
 rewrite[if_neg zQ]at H
 by_cases g:a0_2.toList=([]:List UInt8)
 ·(
 rw[if_pos g]at H
 have c11b0:(a0_2.toList==([]:List UInt8))=true:=zE g
 have c11b1:(a0_2.toList !=([]:List UInt8))=false:=zY g
 have c11b2:a0_2.toList.isEmpty=true:=by simpa using g
 clear g
 by_cases o:a3=true
 ·(
 subst o
 rewrite[if_pos rfl]at H
 obtain rfl:=zI H
 go_enter Tryd.func89,Tryd.ntmps89
 go_wp2_with (first|((with_reducible refine gate_dst (N:=4) rfl ?_);refine sV (N:=4) (cs:= #[.int .i64 a0_0,.int .i64 a0_1,.string a0_2,.int .i64 a0_3]) (t:=40) ?_;intro b hg G hbox hb;have a:=zM (hbox);have c:=sG HB hg;have d:=sG HB hg;replace HB:=sB HB hb;clear hb hbox hg;obtain⟨I,J,K,L,M,O,P,Q⟩:=cells4 a.out))
 go_ret
 exact⟨sq,sb⟩)
 replace o:=zB o
 subst o
 rewrite[if_neg zQ]at H
 obtain rfl:=zI H
 go_enter Tryd.func89,Tryd.ntmps89
 go_wp2_with (first|((with_reducible refine gate_dst (N:=4) rfl ?_);refine sV (N:=4) (cs:= #[.int .i64 a0_0,.int .i64 a0_1,.string a0_2,.int .i64 a0_3]) (t:=40) ?_;intro b hg R hbox hb;have a:=zM (hbox);have c:=sG HB hg;have d:=sG HB hg;replace HB:=sB HB hb;clear hb hbox hg;obtain⟨S,T,U,V,W,X,Y,Z⟩:=cells4 a.out))
 go_ret
 exact⟨sq,sb⟩)
 rw[if_neg g]at H
 have c11b0:(a0_2.toList==([]:List UInt8))=false:=zN g
 have c11b1:(a0_2.toList !=([]:List UInt8))=true:=zX g
 have c11b2:a0_2.toList.isEmpty=false:=by simpa using g
 obtain rfl:=zI H
 go_enter Tryd.func89,Tryd.ntmps89
 go_wp2_with (first|((with_reducible refine gate_dst (N:=4) rfl ?_);refine sV (N:=4) (cs:= #[.int .i64 a0_0,.int .i64 a0_1,.string a0_2,.int .i64 a0_3]) (t:=40) ?_;intro b hg aa hbox hb;have a:=zM (hbox);have c:=sG HB hg;have d:=sG HB hg;replace HB:=sB HB hb;clear hb hbox hg;obtain⟨ab,ac,ad,ae,af,ag,ah,ai⟩:=cells4 a.out))
 go_ret
 exact⟨sq,sb⟩)
 replace l:=zB l
 subst l
 rewrite[if_neg zQ]at H
 by_cases j:a0_1=0
 ·(
 rw[if_pos j]at H
 have c19b0:(a0_1==0)=true:=zE j
 have c19b1:(a0_1 !=0)=false:=zY j
 clear j
 by_cases p:a2=true
 ·(
 subst p
 rewrite[if_pos rfl]at H
 by_cases q:a3=true
 ·(
 subst q
 rewrite[if_pos rfl]at H
 obtain rfl:=zI H
 go_enter Tryd.func89,Tryd.ntmps89
 go_wp2_with (first|((with_reducible refine gate_dst (N:=4) rfl ?_);refine sV (N:=4) (cs:= #[.int .i64 a0_0,.int .i64 a0_1,.string a0_2,.int .i64 a0_3]) (t:=40) ?_;intro b hg aj hbox hb;have a:=zM (hbox);have c:=sG HB hg;have d:=sG HB hg;replace HB:=sB HB hb;clear hb hbox hg;obtain⟨ak,al,am,an,ao,ap,aq,ar⟩:=cells4 a.out))
 go_ret
 exact⟨sq,sb⟩)
 replace q:=zB q
 subst q
 rewrite[if_neg zQ]at H
 obtain rfl:=zI H
 go_enter Tryd.func89,Tryd.ntmps89
 go_wp2_with (first|((with_reducible refine gate_dst (N:=4) rfl ?_);refine sV (N:=4) (cs:= #[.int .i64 a0_0,.int .i64 a0_1,.string a0_2,.int .i64 a0_3]) (t:=40) ?_;intro b hg au hbox hb;have a:=zM (hbox);have c:=sG HB hg;have d:=sG HB hg;replace HB:=sB HB hb;clear hb hbox hg;obtain⟨av,aw,ax,ay,az,aA,aB,aC⟩:=cells4 a.out))
 go_ret
 exact⟨sq,sb⟩)
 replace p:=zB p
 subst p
 rewrite[if_neg zQ]at H
 by_cases i:a0_2.toList=([]:List UInt8)
 ·(
 rw[if_pos i]at H
 have c26b0:(a0_2.toList==([]:List UInt8))=true:=zE i
 have c26b1:(a0_2.toList !=([]:List UInt8))=false:=zY i
 have c26b2:a0_2.toList.isEmpty=true:=by simpa using i
 clear i
 by_cases s:a3=true
 ·(
 subst s
 rewrite[if_pos rfl]at H
 obtain rfl:=zI H
 go_enter Tryd.func89,Tryd.ntmps89
 go_wp2_with (first|((with_reducible refine gate_dst (N:=4) rfl ?_);refine sV (N:=4) (cs:= #[.int .i64 a0_0,.int .i64 a0_1,.string a0_2,.int .i64 a0_3]) (t:=40) ?_;intro b hg aD hbox hb;have a:=zM (hbox);have c:=sG HB hg;have d:=sG HB hg;replace HB:=sB HB hb;clear hb hbox hg;obtain⟨aE,aF,aG,aH,aI,aJ,aK,aL⟩:=cells4 a.out))
 go_ret
 exact⟨sq,sb⟩)
 replace s:=zB s
 subst s
 rewrite[if_neg zQ]at H
 obtain rfl:=zI H
 go_enter Tryd.func89,Tryd.ntmps89
 go_wp2_with (first|((with_reducible refine gate_dst (N:=4) rfl ?_);refine sV (N:=4) (cs:= #[.int .i64 a0_0,.int .i64 a0_1,.string a0_2,.int .i64 a0_3]) (t:=40) ?_;intro b hg aM hbox hb;have a:=zM (hbox);have c:=sG HB hg;have d:=sG HB hg;replace HB:=sB HB hb;clear hb hbox hg;obtain⟨aN,aO,aP,aQ,aR,aS,aT,aU⟩:=cells4 a.out))
 go_ret
 exact⟨sq,sb⟩)
 rw[if_neg i]at H
 have c26b0:(a0_2.toList==([]:List UInt8))=false:=zN i
 have c26b1:(a0_2.toList !=([]:List UInt8))=true:=zX i
 have c26b2:a0_2.toList.isEmpty=false:=by simpa using i
 obtain rfl:=zI H
 go_enter Tryd.func89,Tryd.ntmps89
 go_wp2_with (first|((with_reducible refine gate_dst (N:=4) rfl ?_);refine sV (N:=4) (cs:= #[.int .i64 a0_0,.int .i64 a0_1,.string a0_2,.int .i64 a0_3]) (t:=40) ?_;intro b hg aV hbox hb;have a:=zM (hbox);have c:=sG HB hg;have d:=sG HB hg;replace HB:=sB HB hb;clear hb hbox hg;obtain⟨aW,aX,aY,aZ,a0,a4,a5,a6⟩:=cells4 a.out))
 go_ret
 exact⟨sq,sb⟩)
 rw[if_neg j]at H
 have c19b0:(a0_1==0)=false:=zN j
 have c19b1:(a0_1 !=0)=true:=zX j
 obtain rfl:=zI H
 go_enter Tryd.func89,Tryd.ntmps89
 go_wp2_with (first|((with_reducible refine gate_dst (N:=4) rfl ?_);refine sV (N:=4) (cs:= #[.int .i64 a0_0,.int .i64 a0_1,.string a0_2,.int .i64 a0_3]) (t:=40) ?_;intro b hg a7 hbox hb;have a:=zM (hbox);have c:=sG HB hg;have d:=sG HB hg;replace HB:=sB HB hb;clear hb hbox hg;obtain⟨a8,a9,ba,bb,bc,bd,be,bf⟩:=cells4 a.out))
 go_ret
 exact⟨sq,sb⟩
mutual
def spec_ValidValue.j0 : Nat → Int → Bool → Int → Int → ByteArray → Int → Option (Bool)
 |0,_,_,_,_,_,_=>none
 |k+1,x4,x34,x184000,x184001,x184002,x184003=>if x34=true then((spec_l06Plain.f x184000 x184001 x184002 x184003 false false true).bind fun t189=>(if t189=true then((spec_l00In.f x184003 1 1000000).bind fun t190=>(some t190))else(some false)))else(if x4=7 then(spec_ValidValue.j1 k (x4==7) x184000 x184001 x184002 x184003)else(spec_ValidValue.j1 k (x4==8) x184000 x184001 x184002 x184003))
def spec_ValidValue.j1 : Nat → Bool → Int → Int → ByteArray → Int → Option (Bool)
 |0,_,_,_,_,_=>none
 |k+1,x45,x184000,x184001,x184002,x184003=>if x45=true then((spec_l06Plain.f x184000 x184001 x184002 x184003 false true false).bind fun t191=>(if t191=true then((spec_IsName.f k x184002).bind fun t192=>(some t192))else(some false)))else(some false)
end
def spec_ValidValue.f (k:Nat) (a0_0:Int) (a0_1:Int) (a0_2:ByteArray) (a0_3:Int):Option (Bool):=if a0_0=1 then((spec_l06Plain.f a0_0 a0_1 a0_2 a0_3 false true false).bind fun t184=>(if t184=true then(some (decide ((a0_2.size:Int)≤200)))else(some false)))else(if a0_0=2 then((spec_l06Plain.f a0_0 a0_1 a0_2 a0_3 true false false).bind fun t185=>(if t185=true then((spec_l00In.f a0_1 (-1000000000000) 1000000000000).bind fun t186=>(some t186))else(some false)))else(if a0_0=3 then((spec_l06Plain.f a0_0 a0_1 a0_2 a0_3 false true false).bind fun t187=>(if t187=true then((spec_l00In.f (a0_2.size:Int) 1 1200).bind fun t188=>(some t188))else(some false)))else(if a0_0=4 then(spec_ValidValue.j0 k a0_0 (a0_0==4) a0_0 a0_1 a0_2 a0_3)else(if a0_0=5 then(spec_ValidValue.j0 k a0_0 (a0_0==5) a0_0 a0_1 a0_2 a0_3)else(spec_ValidValue.j0 k a0_0 (a0_0==6) a0_0 a0_1 a0_2 a0_3)))))
set_option maxHeartbeats 8000000 in
set_option maxRecDepth 100000 in
theorem spec_ValidValue.calls (k:Nat) (a0_0:Int) (a0_1:Int) (a0_2:ByteArray) (a0_3:Int) (r:Bool) (w:World) (h:spec_ValidValue.f k a0_0 a0_1 a0_2 a0_3=some r):
  Calls Tryd.prog 51 #[.agg #[.int .i64 a0_0,.int .i64 a0_1,.string a0_2,.int .i64 a0_3]] w fun e w'=>e= .returned (.bool r)∧Below w.heap.size w w':=by
 have ah:=Tryd.underlying40
 have HB:=zM (Below.refl w.heap.size w)
 have H:(if a0_0=1 then((spec_l06Plain.f a0_0 a0_1 a0_2 a0_3 false true false).bind fun A=>(if A=true then(some (decide ((a0_2.size:Int)≤200)))else(some false)))else(if a0_0=2 then((spec_l06Plain.f a0_0 a0_1 a0_2 a0_3 true false false).bind fun B=>(if B=true then((spec_l00In.f a0_1 (-1000000000000) 1000000000000).bind fun C=>(some C))else(some false)))else(if a0_0=3 then((spec_l06Plain.f a0_0 a0_1 a0_2 a0_3 false true false).bind fun D=>(if D=true then((spec_l00In.f (a0_2.size:Int) 1 1200).bind fun E=>(some E))else(some false)))else(if a0_0=4 then(spec_ValidValue.j0 k a0_0 (a0_0==4) a0_0 a0_1 a0_2 a0_3)else(if a0_0=5 then(spec_ValidValue.j0 k a0_0 (a0_0==5) a0_0 a0_1 a0_2 a0_3)else(spec_ValidValue.j0 k a0_0 (a0_0==6) a0_0 a0_1 a0_2 a0_3))))))=some r:=h
 clear h
 by_cases b:a0_0=1
 ·(
 rw[if_pos b]at H
 have c2b0:(a0_0==1)=true:=zE b
 have c2b1:(a0_0 !=1)=false:=zY b
 clear b
 obtain⟨A,I,H⟩:=sO H
 by_cases p:A=true
 ·(
 subst p
 rewrite[if_pos rfl]at H
 obtain rfl:=zI H
 go_enter Tryd.func51,Tryd.ntmps51
 go_wp2_with (first|((with_reducible refine gate_dst (N:=1) rfl ?_);(try(refine gate_guard (by rfl) ?_;dsimp only));refine sV (N:=1) (cs:= #[.int .i64 a0_0,.int .i64 a0_1,.string a0_2,.int .i64 a0_3]) (t:=40) ?_;intro g hg w5 hbox hb;have a:=zM (hbox);have m:=sG HB hg;have n:=sG HB hg;replace HB:=sB HB hb;clear hb hbox hg;obtain⟨ai,aj,ak,al,am,an,ao,ap⟩:=cells4 a.out)|((with_reducible refine gate_callee (f:=89) rfl ?_);refine sC (some 8) Tryd.func89 #[.agg #[.int .i64 a0_0,.int .i64 a0_1,.string a0_2,.int .i64 a0_3],.bool false,.bool true,.bool false] (spec_l06Plain.calls a0_0 a0_1 a0_2 a0_3 false true false true _ I.out) ?_;rintro e w7 ⟨rfl,hb⟩;refine⟨_,rfl,?_⟩;replace a:=sK a hb;replace HB:=sB HB hb;(try clear hb);obtain⟨aq,ar,au,av,aw,ax,ay,az⟩:=cells4 a.out))
 go_ret
 exact⟨sq,sb⟩)
 replace p:=zB p
 subst p
 rewrite[if_neg zQ]at H
 obtain rfl:=zI H
 go_enter Tryd.func51,Tryd.ntmps51
 go_wp2_with (first|((with_reducible refine gate_dst (N:=1) rfl ?_);(try(refine gate_guard (by rfl) ?_;dsimp only));refine sV (N:=1) (cs:= #[.int .i64 a0_0,.int .i64 a0_1,.string a0_2,.int .i64 a0_3]) (t:=40) ?_;intro g hg w9 hbox hb;have a:=zM (hbox);have m:=sG HB hg;have n:=sG HB hg;replace HB:=sB HB hb;clear hb hbox hg;obtain⟨aA,aB,aC,aD,aE,aF,aG,aH⟩:=cells4 a.out)|((with_reducible refine gate_callee (f:=89) rfl ?_);refine sC (some 8) Tryd.func89 #[.agg #[.int .i64 a0_0,.int .i64 a0_1,.string a0_2,.int .i64 a0_3],.bool false,.bool true,.bool false] (spec_l06Plain.calls a0_0 a0_1 a0_2 a0_3 false true false false _ I.out) ?_;rintro e aI ⟨rfl,hb⟩;refine⟨_,rfl,?_⟩;replace a:=sK a hb;replace HB:=sB HB hb;(try clear hb)))
 go_ret
 exact⟨sq,sb⟩)
 rw[if_neg b]at H
 have c2b0:(a0_0==1)=false:=zN b
 have c2b1:(a0_0 !=1)=true:=zX b
 by_cases c:a0_0=2
 ·(
 rw[if_pos c]at H
 have c12b0:(a0_0==2)=true:=zE c
 have c12b1:(a0_0 !=2)=false:=zY c
 clear c
 obtain⟨B,J,H⟩:=sO H
 by_cases q:B=true
 ·(
 subst q
 rewrite[if_pos rfl]at H
 obtain⟨C,X,H⟩:=sO H
 obtain rfl:=zI H
 go_enter Tryd.func51,Tryd.ntmps51
 go_wp2_with (first|((with_reducible refine gate_dst (N:=1) rfl ?_);(try(refine gate_guard (by rfl) ?_;dsimp only));refine sV (N:=1) (cs:= #[.int .i64 a0_0,.int .i64 a0_1,.string a0_2,.int .i64 a0_3]) (t:=40) ?_;intro g hg aJ hbox hb;have a:=zM (hbox);have m:=sG HB hg;have n:=sG HB hg;replace HB:=sB HB hb;clear hb hbox hg;obtain⟨aK,aL,aM,aN,aO,aP,aQ,aR⟩:=cells4 a.out)|((with_reducible refine gate_callee (f:=89) rfl ?_);refine sC (some 18) Tryd.func89 #[.agg #[.int .i64 a0_0,.int .i64 a0_1,.string a0_2,.int .i64 a0_3],.bool true,.bool false,.bool false] (spec_l06Plain.calls a0_0 a0_1 a0_2 a0_3 true false false true _ J.out) ?_;rintro e aS ⟨rfl,hb⟩;refine⟨_,rfl,?_⟩;replace a:=sK a hb;replace HB:=sB HB hb;(try clear hb);obtain⟨aT,aU,aV,aW,aX,aY,aZ,a0⟩:=cells4 a.out)|(go_at_call 49;(with_reducible refine(spec_l00In.calls a0_1 (-1000000000000) 1000000000000 C _ X.out).mono ?_);rintro e w' ⟨rfl,⟨nd,rfl⟩⟩))
 go_ret
 exact⟨sq,sb⟩)
 replace q:=zB q
 subst q
 rewrite[if_neg zQ]at H
 obtain rfl:=zI H
 go_enter Tryd.func51,Tryd.ntmps51
 go_wp2_with (first|((with_reducible refine gate_dst (N:=1) rfl ?_);(try(refine gate_guard (by rfl) ?_;dsimp only));refine sV (N:=1) (cs:= #[.int .i64 a0_0,.int .i64 a0_1,.string a0_2,.int .i64 a0_3]) (t:=40) ?_;intro g hg a4 hbox hb;have a:=zM (hbox);have m:=sG HB hg;have n:=sG HB hg;replace HB:=sB HB hb;clear hb hbox hg;obtain⟨a5,a6,a7,a8,a9,ba,bb,bc⟩:=cells4 a.out)|((with_reducible refine gate_callee (f:=89) rfl ?_);refine sC (some 18) Tryd.func89 #[.agg #[.int .i64 a0_0,.int .i64 a0_1,.string a0_2,.int .i64 a0_3],.bool true,.bool false,.bool false] (spec_l06Plain.calls a0_0 a0_1 a0_2 a0_3 true false false false _ J.out) ?_;rintro e bd ⟨rfl,hb⟩;refine⟨_,rfl,?_⟩;replace a:=sK a hb;replace HB:=sB HB hb;(try clear hb)))
 go_ret
 exact⟨sq,sb⟩)
 rw[if_neg c]at H
 have c12b0:(a0_0==2)=false:=zN c
 have c12b1:(a0_0 !=2)=true:=zX c
 by_cases d:a0_0=3
 ·(
 rw[if_pos d]at H
 have c23b0:(a0_0==3)=true:=zE d
 have c23b1:(a0_0 !=3)=false:=zY d
 clear d
 obtain⟨D,K,H⟩:=sO H
 by_cases s:D=true
 ·(
 subst s
 rewrite[if_pos rfl]at H
 obtain⟨E,Y,H⟩:=sO H
 obtain rfl:=zI H
 go_enter Tryd.func51,Tryd.ntmps51
 go_wp2_with (first|((with_reducible refine gate_dst (N:=1) rfl ?_);(try(refine gate_guard (by rfl) ?_;dsimp only));refine sV (N:=1) (cs:= #[.int .i64 a0_0,.int .i64 a0_1,.string a0_2,.int .i64 a0_3]) (t:=40) ?_;intro g hg be hbox hb;have a:=zM (hbox);have m:=sG HB hg;have n:=sG HB hg;replace HB:=sB HB hb;clear hb hbox hg;obtain⟨bf,bg,bh,bi,bj,bk,bl,bm⟩:=cells4 a.out)|((with_reducible refine gate_callee (f:=89) rfl ?_);refine sC (some 27) Tryd.func89 #[.agg #[.int .i64 a0_0,.int .i64 a0_1,.string a0_2,.int .i64 a0_3],.bool false,.bool true,.bool false] (spec_l06Plain.calls a0_0 a0_1 a0_2 a0_3 false true false true _ K.out) ?_;rintro e bn ⟨rfl,hb⟩;refine⟨_,rfl,?_⟩;replace a:=sK a hb;replace HB:=sB HB hb;(try clear hb);obtain⟨bo,bp,bq,br,bs,bt,bu,bv⟩:=cells4 a.out)|(go_at_call 49;(with_reducible refine(spec_l00In.calls (a0_2.size:Int) 1 1200 E _ Y.out).mono ?_);rintro e w' ⟨rfl,⟨nd,rfl⟩⟩))
 go_ret
 exact⟨sq,sb⟩)
 replace s:=zB s
 subst s
 rewrite[if_neg zQ]at H
 obtain rfl:=zI H
 go_enter Tryd.func51,Tryd.ntmps51
 go_wp2_with (first|((with_reducible refine gate_dst (N:=1) rfl ?_);(try(refine gate_guard (by rfl) ?_;dsimp only));refine sV (N:=1) (cs:= #[.int .i64 a0_0,.int .i64 a0_1,.string a0_2,.int .i64 a0_3]) (t:=40) ?_;intro g hg bw hbox hb;have a:=zM (hbox);have m:=sG HB hg;have n:=sG HB hg;replace HB:=sB HB hb;clear hb hbox hg;obtain⟨bx,bz,bA,bB,bC,bD,bE,bF⟩:=cells4 a.out)|((with_reducible refine gate_callee (f:=89) rfl ?_);refine sC (some 27) Tryd.func89 #[.agg #[.int .i64 a0_0,.int .i64 a0_1,.string a0_2,.int .i64 a0_3],.bool false,.bool true,.bool false] (spec_l06Plain.calls a0_0 a0_1 a0_2 a0_3 false true false false _ K.out) ?_;rintro e bG ⟨rfl,hb⟩;refine⟨_,rfl,?_⟩;replace a:=sK a hb;replace HB:=sB HB hb;(try clear hb)))
 go_ret
 exact⟨sq,sb⟩)
 rw[if_neg d]at H
 have c23b0:(a0_0==3)=false:=zN d
 have c23b1:(a0_0 !=3)=true:=zX d
 have F:=zM H
 clear H
 go_enter Tryd.func51,Tryd.ntmps51
 go_upto_if 34 with(first|((with_reducible refine gate_dst (N:=1) rfl ?_);(try(refine gate_guard (by rfl) ?_;dsimp only));refine sV (N:=1) (cs:= #[.int .i64 a0_0,.int .i64 a0_1,.string a0_2,.int .i64 a0_3]) (t:=40) ?_;intro g hg bH hbox hb;have a:=zM (hbox);have m:=sG HB hg;have n:=sG HB hg;replace HB:=sB HB hb;clear hb hbox hg;obtain⟨L,M,O,P,Q,R,S,T⟩:=cells4 a.out))
 (try simp only[zP])
 go_cut [34] (fun Z wc=>∃(kq:Nat) (u:Bool),Z= .bool u∧Aside0 (spec_ValidValue.j0 kq a0_0 u a0_0 a0_1 a0_2 a0_3=some r)∧Aside0 (kq≤k)∧Aside0 (wc.heap[g]?=some (.cells #[.int .i64 a0_0,.int .i64 a0_1,.string a0_2,.int .i64 a0_3] 40 (0,0)))∧Aside0 (Below w.heap.size w wc))
 case first=>(
 have H:=F.out
 clear F
 by_cases i:a0_0=4
 ·(
 rw[if_pos i]at H
 have c37b0:(a0_0==4)=true:=zE i
 have c37b1:(a0_0 !=4)=false:=zY i
 clear i
 (first|rw[c37b0]|(simp only[i64_w,i32_w];rw[c37b0])|rw[c37b2]|skip)
 have H':=zM H
 clear H
 go_wp2
 go_meet
 case rel=>exact⟨_,((a0_0==4)),sr,H',⟨by first|omega|exact Nat.le_refl _⟩,⟨by exact sT a.out⟩,⟨sb⟩⟩)
 rw[if_neg i]at H
 have c37b0:(a0_0==4)=false:=zN i
 have c37b1:(a0_0 !=4)=true:=zX i
 (first|rw[c37b0]|(simp only[i64_w,i32_w];rw[c37b0])|rw[c37b2]|skip)
 by_cases j:a0_0=5
 ·(
 rw[if_pos j]at H
 have c38b0:(a0_0==5)=true:=zE j
 have c38b1:(a0_0 !=5)=false:=zY j
 clear j
 have H':=zM H
 clear H
 go_wp2
 go_meet
 case rel=>exact⟨_,((a0_0==5)),sr,H',⟨by first|omega|exact Nat.le_refl _⟩,⟨by exact sT a.out⟩,⟨sb⟩⟩)
 rw[if_neg j]at H
 have c38b0:(a0_0==5)=false:=zN j
 have c38b1:(a0_0 !=5)=true:=zX j
 have H':=zM H
 clear H
 go_wp2
 go_meet
 case rel=>exact⟨_,((a0_0==6)),sr,H',⟨by first|omega|exact Nat.le_refl _⟩,⟨by exact sT a.out⟩,⟨sb⟩⟩)
 case rest=>(
 clear F
 try clear b
 try clear c2b0
 try clear c2b1
 try clear c
 try clear c12b0
 try clear c12b1
 try clear d
 try clear c23b0
 try clear c23b1
 try clear L
 try clear M
 try clear O
 try clear P
 try clear Q
 try clear R
 try clear S
 try clear T
 obtain⟨kq,u,rfl,HA,U,a,HB⟩:=hcut
 cases kq with
 |zero=>exact absurd HA.out (by simp[spec_ValidValue.j0])
 |succ kj33=>(
 have H:=HA.out
 clear HA
 simp only[spec_ValidValue.j0]at H
 by_cases o:u=true
 ·(
 subst o
 rewrite[if_pos rfl]at H
 obtain⟨aa,V,H⟩:=sO H
 by_cases v:aa=true
 ·(
 subst v
 rewrite[if_pos rfl]at H
 obtain⟨ab,ac,H⟩:=sO H
 obtain rfl:=zI H
 obtain⟨bI,bJ,bK,bL,bM,bN,bO,bP⟩:=cells4 a.out
 go_wp2_with (first|((with_reducible refine gate_callee (f:=89) rfl ?_);refine sC (some 39) Tryd.func89 #[.agg #[.int .i64 a0_0,.int .i64 a0_1,.string a0_2,.int .i64 a0_3],.bool false,.bool false,.bool true] (spec_l06Plain.calls a0_0 a0_1 a0_2 a0_3 false false true true _ V.out) ?_;rintro e bQ ⟨rfl,hb⟩;refine⟨_,rfl,?_⟩;replace a:=sK a hb;replace HB:=sB HB hb;(try clear hb);obtain⟨bR,bS,bT,bU,bV,bW,bX,bY⟩:=cells4 a.out)|(go_at_call 49;(with_reducible refine(spec_l00In.calls a0_3 1 1000000 ab _ ac.out).mono ?_);rintro e w' ⟨rfl,⟨nd,rfl⟩⟩))
 go_ret
 exact⟨sq,sb⟩)
 replace v:=zB v
 subst v
 rewrite[if_neg zQ]at H
 obtain rfl:=zI H
 obtain⟨bZ,b0,b1,b2,b3,b4,b5,b6⟩:=cells4 a.out
 go_wp2_with (first|((with_reducible refine gate_callee (f:=89) rfl ?_);refine sC (some 39) Tryd.func89 #[.agg #[.int .i64 a0_0,.int .i64 a0_1,.string a0_2,.int .i64 a0_3],.bool false,.bool false,.bool true] (spec_l06Plain.calls a0_0 a0_1 a0_2 a0_3 false false true false _ V.out) ?_;rintro e b7 ⟨rfl,hb⟩;refine⟨_,rfl,?_⟩;replace a:=sK a hb;replace HB:=sB HB hb;(try clear hb)))
 go_ret
 exact⟨sq,sb⟩)
 replace o:=zB o
 subst o
 rewrite[if_neg zQ]at H
 have G:=zM H
 clear H
 go_upto_if 45 with(fail)
 go_cut [45] (fun ad wc=>∃(kq:Nat) (x:Bool),ad= .bool x∧Aside0 (spec_ValidValue.j1 kq x a0_0 a0_1 a0_2 a0_3=some r)∧Aside0 (kq≤kj33)∧Aside0 (wc.heap[g]?=some (.cells #[.int .i64 a0_0,.int .i64 a0_1,.string a0_2,.int .i64 a0_3] 40 (0,0)))∧Aside0 (Below w.heap.size w wc))
 case first=>(
 have H:=G.out
 clear G
 by_cases l:a0_0=7
 ·(
 rw[if_pos l]at H
 have c49b0:(a0_0==7)=true:=zE l
 have c49b1:(a0_0 !=7)=false:=zY l
 clear l
 (first|rw[c49b0]|(simp only[i64_w,i32_w];rw[c49b0])|rw[c49b2]|skip)
 have H':=zM H
 clear H
 go_wp2
 go_meet
 case rel=>exact⟨_,((a0_0==7)),sr,H',⟨by have:=U.out;first|omega|exact Nat.le_refl _⟩,⟨by exact sT a.out⟩,⟨sb⟩⟩)
 rw[if_neg l]at H
 have c49b0:(a0_0==7)=false:=zN l
 have c49b1:(a0_0 !=7)=true:=zX l
 (first|rw[c49b0]|(simp only[i64_w,i32_w];rw[c49b0])|rw[c49b2]|skip)
 have H':=zM H
 clear H
 go_wp2
 go_meet
 case rel=>exact⟨_,((a0_0==8)),sr,H',⟨by have:=U.out;first|omega|exact Nat.le_refl _⟩,⟨by exact sT a.out⟩,⟨sb⟩⟩)
 case rest=>(
 clear G
 try clear b
 try clear c2b0
 try clear c2b1
 try clear c
 try clear c12b0
 try clear c12b1
 try clear d
 try clear c23b0
 try clear c23b1
 try clear o
 try clear L
 try clear M
 try clear O
 try clear P
 try clear Q
 try clear R
 try clear S
 try clear T
 obtain⟨kq,x,rfl,HA,b8,a,HB⟩:=hcut
 cases kq with
 |zero=>exact absurd HA.out (by simp[spec_ValidValue.j1])
 |succ kj47=>(
 have H:=HA.out
 clear HA
 simp only[spec_ValidValue.j1]at H
 by_cases y:x=true
 ·(
 subst y
 rewrite[if_pos rfl]at H
 obtain⟨ae,W,H⟩:=sO H
 by_cases z:ae=true
 ·(
 subst z
 rewrite[if_pos rfl]at H
 obtain⟨af,ag,H⟩:=sO H
 obtain rfl:=zI H
 obtain⟨b9,ca,cb,cc,cd,ce,cf,cg⟩:=cells4 a.out
 go_wp2_with (first|((with_reducible refine gate_callee (f:=89) rfl ?_);refine sC (some 49) Tryd.func89 #[.agg #[.int .i64 a0_0,.int .i64 a0_1,.string a0_2,.int .i64 a0_3],.bool false,.bool true,.bool false] (spec_l06Plain.calls a0_0 a0_1 a0_2 a0_3 false true false true _ W.out) ?_;rintro e ch ⟨rfl,hb⟩;refine⟨_,rfl,?_⟩;replace a:=sK a hb;replace HB:=sB HB hb;(try clear hb);obtain⟨ci,cj,ck,cl,cm,cn,co,cp⟩:=cells4 a.out)|(go_at_call 50;(with_reducible refine(spec_IsName.calls kj47 a0_2 af _ ag.out).mono ?_);rintro e w' ⟨rfl,⟨nd,rfl⟩⟩))
 go_ret
 exact⟨sq,sb⟩)
 replace z:=zB z
 subst z
 rewrite[if_neg zQ]at H
 obtain rfl:=zI H
 obtain⟨cq,cr,ct,cu,cv,cw,cx,cy⟩:=cells4 a.out
 go_wp2_with (first|((with_reducible refine gate_callee (f:=89) rfl ?_);refine sC (some 49) Tryd.func89 #[.agg #[.int .i64 a0_0,.int .i64 a0_1,.string a0_2,.int .i64 a0_3],.bool false,.bool true,.bool false] (spec_l06Plain.calls a0_0 a0_1 a0_2 a0_3 false true false false _ W.out) ?_;rintro e cz ⟨rfl,hb⟩;refine⟨_,rfl,?_⟩;replace a:=sK a hb;replace HB:=sB HB hb;(try clear hb)))
 go_ret
 exact⟨sq,sb⟩)
 replace y:=zB y
 subst y
 rewrite[if_neg zQ]at H
 obtain rfl:=zI H
 go_wp2
 go_ret
 exact⟨sq,sb⟩))))
end Go.Proofs.YtjmojijopammjaaDoor.PFnExactCaptureText
