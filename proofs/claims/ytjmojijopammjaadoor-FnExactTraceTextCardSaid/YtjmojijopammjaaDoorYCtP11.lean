/- Printed functions: spec_TraceText, laws_FnExactTraceText. -/
import Derived.Test.YtjmojijopammjaaDoorYCtP0
import Derived.Test.YtjmojijopammjaaDoorYCtP7
import Derived.Test.YtjmojijopammjaaDoorYCtP8
import Derived.Test.YtjmojijopammjaaDoorYCtP9
import Derived.Test.YtjmojijopammjaaDoorYCtP10
import Derived.Test.YtjmojijopammjaaDoorYCtP13
namespace Go.Proofs.YtjmojijopammjaaDoor.PFnExactCaptureText
open Go.RowKit Go.Proofs.YtjmojijopammjaaDoorG Go.Proofs.YtjmojijopammjaaDoorW.PrintWords Go.Proofs.YtjmojijopammjaaDoorW.PrintLast Go.Proofs.YtjmojijopammjaaDoorW.PrintMore
attribute [local go_sem] max2_int min2_int max_two min_two max_three min_three max_four min_four
set_option linter.unusedVariables false
set_option linter.unusedSimpArgs false
def spec_TraceText.j0 : Nat → Int → Int → ByteArray → Bool → Int → Int → ByteArray → Int → Option (ByteArray)
 |0,_,_,_,_,_,_,_,_=>none
 |k+1,x0,x1,x2,x27,x212000,x212001,x212002,x212003=>if x27=true then(some (⟨#[]⟩:ByteArray))else((spec_l06Digits.f k x1).bind fun t216=>(if t216.size+2≤9223372036854775807 then(if x0=1 then(if t216.size+2+x2.size≤9223372036854775807 then(if t216.size+2+x2.size+3≤9223372036854775807 then((spec_ValueText.f k x212000 x212001 x212002 x212003).bind fun t217=>(if t216.size+2+x2.size+3+t217.size≤9223372036854775807 then(some ((((t216++(⟨#[58,32]⟩:ByteArray))++x2)++(⟨#[32,61,32]⟩:ByteArray))++t217))else(none)))else(none))else(none))else(if x0=2 then(if t216.size+2+5≤9223372036854775807 then(if t216.size+2+5+x2.size≤9223372036854775807 then(some (((t216++(⟨#[58,32]⟩:ByteArray))++(⟨#[99,97,108,108,32]⟩:ByteArray))++x2))else(none))else(none))else(if x0=3 then(if t216.size+2+7≤9223372036854775807 then(if t216.size+2+7+x2.size≤9223372036854775807 then(if t216.size+2+7+x2.size+3≤9223372036854775807 then((spec_ValueText.f k x212000 x212001 x212002 x212003).bind fun t218=>(if t216.size+2+7+x2.size+3+t218.size≤9223372036854775807 then(some (((((t216++(⟨#[58,32]⟩:ByteArray))++(⟨#[114,101,116,117,114,110,32]⟩:ByteArray))++x2)++(⟨#[32,61,32]⟩:ByteArray))++t218))else(none)))else(none))else(none))else(none))else(if x0=4 then(if t216.size+2+5≤9223372036854775807 then(if t216.size+2+5+x2.size≤9223372036854775807 then(some (((t216++(⟨#[58,32]⟩:ByteArray))++(⟨#[102,97,105,108,32]⟩:ByteArray))++x2))else(none))else(none))else(if t216.size+2+5≤9223372036854775807 then(if t216.size+2+5+x2.size≤9223372036854775807 then(some (((t216++(⟨#[58,32]⟩:ByteArray))++(⟨#[103,111,116,111,32]⟩:ByteArray))++x2))else(none))else(none))))))else(none)))
def spec_TraceText.f (k:Nat) (a0:Int) (a1:Int) (a2:ByteArray) (a3_0:Int) (a3_1:Int) (a3_2:ByteArray) (a3_3:Int):Option (ByteArray):=(spec_l00In.f a0 1 5).bind fun t212=>(if t212=true then((spec_l00In.f a1 1 1000).bind fun t213=>(if t213=true then((spec_IsName.f k a2).bind fun t214=>(if t214=true then((spec_ValidValue.f k a3_0 a3_1 a3_2 a3_3).bind fun t215=>(spec_TraceText.j0 k a0 a1 a2 (!t215) a3_0 a3_1 a3_2 a3_3))else(spec_TraceText.j0 k a0 a1 a2 true a3_0 a3_1 a3_2 a3_3)))else(spec_TraceText.j0 k a0 a1 a2 true a3_0 a3_1 a3_2 a3_3)))else(spec_TraceText.j0 k a0 a1 a2 true a3_0 a3_1 a3_2 a3_3))
set_option maxHeartbeats 8000000 in
set_option maxRecDepth 100000 in
theorem spec_TraceText.calls (k:Nat) (a0:Int) (a1:Int) (a2:ByteArray) (a3_0:Int) (a3_1:Int) (a3_2:ByteArray) (a3_3:Int) (r:ByteArray) (w:World) (h:spec_TraceText.f k a0 a1 a2 a3_0 a3_1 a3_2 a3_3=some r):
  Calls Tryd.prog 19 #[.int .i64 a0,.int .i64 a1,.string a2,.agg #[.int .i64 a3_0,.int .i64 a3_1,.string a3_2,.int .i64 a3_3]] w fun e w'=>e= .returned (.string r)∧Below w.heap.size w w':=by
 have Y:=Tryd.underlying40
 have HB:=zM (Below.refl w.heap.size w)
 have H:((spec_l00In.f a0 1 5).bind fun K=>(if K=true then((spec_l00In.f a1 1 1000).bind fun L=>(if L=true then((spec_IsName.f k a2).bind fun M=>(if M=true then((spec_ValidValue.f k a3_0 a3_1 a3_2 a3_3).bind fun C=>(spec_TraceText.j0 k a0 a1 a2 (!C) a3_0 a3_1 a3_2 a3_3))else(spec_TraceText.j0 k a0 a1 a2 true a3_0 a3_1 a3_2 a3_3)))else(spec_TraceText.j0 k a0 a1 a2 true a3_0 a3_1 a3_2 a3_3)))else(spec_TraceText.j0 k a0 a1 a2 true a3_0 a3_1 a3_2 a3_3)))=some r:=h
 clear h
 have O:=zM H
 clear H
 go_enter Tryd.func19,Tryd.ntmps19
 go_upto_region 1 with(first|((with_reducible refine gate_dst (N:=7) rfl ?_);refine sV (N:=7) (cs:= #[.int .i64 a3_0,.int .i64 a3_1,.string a3_2,.int .i64 a3_3]) (t:=40) ?_;intro T hg Z hbox hb;have b:=zM (hbox);have aa:=sG HB hg;have ab:=sG HB hg;replace HB:=sB HB hb;clear hb hbox hg))
 (try simp only[zP])
 go_cut [27] (fun U wc=>∃(kq:Nat) (D:Bool),U= .bool D∧Aside0 (spec_TraceText.j0 kq a0 a1 a2 D a3_0 a3_1 a3_2 a3_3=some r)∧Aside0 (kq≤k)∧Aside0 (wc.heap[T]?=some (.cells #[.int .i64 a3_0,.int .i64 a3_1,.string a3_2,.int .i64 a3_3] 40 (0,0)))∧Aside0 (Below w.heap.size w wc))
 case first=>(
 have H:=O.out
 clear O
 obtain⟨K,E,H⟩:=sO H
 by_cases F:K=true
 ·(
 subst F
 rewrite[if_pos rfl]at H
 obtain⟨L,P,H⟩:=sO H
 by_cases G:L=true
 ·(
 subst G
 rewrite[if_pos rfl]at H
 obtain⟨M,S,H⟩:=sO H
 by_cases I:M=true
 ·(
 subst I
 rewrite[if_pos rfl]at H
 obtain⟨C,V,H⟩:=sO H
 have H':=zM H
 clear H
 go_wp2_with (first|((with_reducible refine gate_callee (f:=49) rfl ?_);refine sC (some 11) Tryd.func49 #[.int .i64 a0,.int .i64 1,.int .i64 5] (spec_l00In.calls a0 1 5 true _ E.out) ?_;rintro e w' ⟨rfl,⟨nd,rfl⟩⟩;refine⟨_,rfl,?_⟩)|(go_at_call 49;(with_reducible refine(spec_l00In.calls a1 1 1000 true _ P.out).mono ?_);rintro e w' ⟨rfl,⟨nd,rfl⟩⟩)|(go_at_call 50;(with_reducible refine(spec_IsName.calls k a2 true _ S.out).mono ?_);rintro e w' ⟨rfl,⟨nd,rfl⟩⟩;obtain⟨ac,ad,ae,af,ag,ah,ai,aj⟩:=cells4 b.out)|(go_at_call 51;(with_reducible refine(spec_ValidValue.calls k a3_0 a3_1 a3_2 a3_3 C _ V.out).mono ?_);rintro e ak ⟨rfl,hb⟩;replace b:=sK b hb;replace HB:=sB HB hb;(try clear hb)))
 go_meet
 case rel=>exact⟨_,(!C),sr,H',⟨by first|omega|exact Nat.le_refl _⟩,⟨by exact sT b.out⟩,⟨sb⟩⟩)
 replace I:=zB I
 subst I
 rewrite[if_neg zQ]at H
 have H':=zM H
 clear H
 go_wp2_with (first|((with_reducible refine gate_callee (f:=49) rfl ?_);refine sC (some 11) Tryd.func49 #[.int .i64 a0,.int .i64 1,.int .i64 5] (spec_l00In.calls a0 1 5 true _ E.out) ?_;rintro e w' ⟨rfl,⟨nd,rfl⟩⟩;refine⟨_,rfl,?_⟩)|(go_at_call 49;(with_reducible refine(spec_l00In.calls a1 1 1000 true _ P.out).mono ?_);rintro e w' ⟨rfl,⟨nd,rfl⟩⟩)|(go_at_call 50;(with_reducible refine(spec_IsName.calls k a2 false _ S.out).mono ?_);rintro e w' ⟨rfl,⟨nd,rfl⟩⟩))
 go_meet
 case rel=>exact⟨_,(true),sr,H',⟨by first|omega|exact Nat.le_refl _⟩,⟨by exact sT b.out⟩,⟨sb⟩⟩)
 replace G:=zB G
 subst G
 rewrite[if_neg zQ]at H
 have H':=zM H
 clear H
 go_wp2_with (first|((with_reducible refine gate_callee (f:=49) rfl ?_);refine sC (some 11) Tryd.func49 #[.int .i64 a0,.int .i64 1,.int .i64 5] (spec_l00In.calls a0 1 5 true _ E.out) ?_;rintro e w' ⟨rfl,⟨nd,rfl⟩⟩;refine⟨_,rfl,?_⟩)|(go_at_call 49;(with_reducible refine(spec_l00In.calls a1 1 1000 false _ P.out).mono ?_);rintro e w' ⟨rfl,⟨nd,rfl⟩⟩))
 go_meet
 case rel=>exact⟨_,(true),sr,H',⟨by first|omega|exact Nat.le_refl _⟩,⟨by exact sT b.out⟩,⟨sb⟩⟩)
 replace F:=zB F
 subst F
 rewrite[if_neg zQ]at H
 have H':=zM H
 clear H
 go_wp2_with (first|((with_reducible refine gate_callee (f:=49) rfl ?_);refine sC (some 11) Tryd.func49 #[.int .i64 a0,.int .i64 1,.int .i64 5] (spec_l00In.calls a0 1 5 false _ E.out) ?_;rintro e w' ⟨rfl,⟨nd,rfl⟩⟩;refine⟨_,rfl,?_⟩))
 go_meet
 case rel=>exact⟨_,(true),sr,H',⟨by first|omega|exact Nat.le_refl _⟩,⟨by exact sT b.out⟩,⟨sb⟩⟩)
 case rest=>(
 clear O
 obtain⟨kq,D,rfl,HA,al,b,HB⟩:=hcut
 cases kq with
 |zero=>exact absurd HA.out (by simp[spec_TraceText.j0])
 |succ kj4=>(
 have H:=HA.out
 clear HA
 simp only[spec_TraceText.j0]at H
 by_cases J:D=true
 ·(
 subst J
 rewrite[if_pos rfl]at H
 obtain rfl:=zI H
 go_wp2
 go_ret
 exact⟨sq,sb⟩)
 replace J:=zB J
 subst J
 rewrite[if_neg zQ]at H
 obtain⟨a,j,H⟩:=sO H
 by_cases l:a.size+2≤9223372036854775807
 ·(
 rw[if_pos l]at H
 have c18b0:=eq_true l
 have c18b1:=zT l
 try have c18b2:(9223372036854775807<a.size+2)=False:=eq_false (Nat.not_lt.2 l)
 by_cases c:a0=1
 ·(
 rw[if_pos c]at H
 have c19b0:(a0==1)=true:=zE c
 have c19b1:(a0 !=1)=false:=zY c
 clear c
 by_cases m:a.size+2+a2.size≤9223372036854775807
 ·(
 rw[if_pos m]at H
 have c20b0:=eq_true m
 have c20b1:=zT m
 try have c20b2:(9223372036854775807<a.size+2+a2.size)=False:=eq_false (Nat.not_lt.2 m)
 by_cases n:a.size+2+a2.size+3≤9223372036854775807
 ·(
 rw[if_pos n]at H
 have c21b0:=eq_true n
 have c21b1:=zT n
 try have c21b2:(9223372036854775807<a.size+2+a2.size+3)=False:=eq_false (Nat.not_lt.2 n)
 obtain⟨Q,W,H⟩:=sO H
 by_cases o:a.size+2+a2.size+3+Q.size≤9223372036854775807
 ·(
 rw[if_pos o]at H
 have c23b0:=eq_true o
 have c23b1:=zT o
 try have c23b2:(9223372036854775807<a.size+2+a2.size+3+Q.size)=False:=eq_false (Nat.not_lt.2 o)
 obtain rfl:=zI H
 go_wp2_with (first|((with_reducible refine gate_callee (f:=52) rfl ?_);refine sC (some 29) Tryd.func52 #[.int .i64 a1] (spec_l06Digits.calls kj4 a1 a _ j.out) ?_;rintro e am ⟨rfl,hb⟩;refine⟨_,rfl,?_⟩;replace b:=sK b hb;replace HB:=sB HB hb;(try clear hb);obtain⟨an,ao,ap,aq,ar,au,av,aw⟩:=cells4 b.out)|((with_reducible refine gate_callee (f:=53) rfl ?_);refine sC (some 39) Tryd.func53 #[.agg #[.int .i64 a3_0,.int .i64 a3_1,.string a3_2,.int .i64 a3_3]] (spec_ValueText.calls kj4 a3_0 a3_1 a3_2 a3_3 Q _ W.out) ?_;rintro e ax ⟨rfl,hb⟩;refine⟨_,rfl,?_⟩;replace b:=sK b hb;replace HB:=sB HB hb;(try clear hb)))
 go_ret
 exact⟨sq,sb⟩)
 rw[if_neg o]at H
 exact absurd H (by simp))
 rw[if_neg n]at H
 exact absurd H (by simp))
 rw[if_neg m]at H
 exact absurd H (by simp))
 rw[if_neg c]at H
 have c19b0:(a0==1)=false:=zN c
 have c19b1:(a0 !=1)=true:=zX c
 by_cases d:a0=2
 ·(
 rw[if_pos d]at H
 have c27b0:(a0==2)=true:=zE d
 have c27b1:(a0 !=2)=false:=zY d
 clear d
 by_cases p:a.size+2+5≤9223372036854775807
 ·(
 rw[if_pos p]at H
 have c28b0:=eq_true p
 have c28b1:=zT p
 try have c28b2:(9223372036854775807<a.size+2+5)=False:=eq_false (Nat.not_lt.2 p)
 by_cases q:a.size+2+5+a2.size≤9223372036854775807
 ·(
 rw[if_pos q]at H
 have c29b0:=eq_true q
 have c29b1:=zT q
 try have c29b2:(9223372036854775807<a.size+2+5+a2.size)=False:=eq_false (Nat.not_lt.2 q)
 obtain rfl:=zI H
 go_wp2_with (first|((with_reducible refine gate_callee (f:=52) rfl ?_);refine sC (some 29) Tryd.func52 #[.int .i64 a1] (spec_l06Digits.calls kj4 a1 a _ j.out) ?_;rintro e ay ⟨rfl,hb⟩;refine⟨_,rfl,?_⟩;replace b:=sK b hb;replace HB:=sB HB hb;(try clear hb)))
 go_ret
 exact⟨sq,sb⟩)
 rw[if_neg q]at H
 exact absurd H (by simp))
 rw[if_neg p]at H
 exact absurd H (by simp))
 rw[if_neg d]at H
 have c27b0:(a0==2)=false:=zN d
 have c27b1:(a0 !=2)=true:=zX d
 by_cases g:a0=3
 ·(
 rw[if_pos g]at H
 have c31b0:(a0==3)=true:=zE g
 have c31b1:(a0 !=3)=false:=zY g
 clear g
 by_cases s:a.size+2+7≤9223372036854775807
 ·(
 rw[if_pos s]at H
 have c32b0:=eq_true s
 have c32b1:=zT s
 try have c32b2:(9223372036854775807<a.size+2+7)=False:=eq_false (Nat.not_lt.2 s)
 by_cases u:a.size+2+7+a2.size≤9223372036854775807
 ·(
 rw[if_pos u]at H
 have c33b0:=eq_true u
 have c33b1:=zT u
 try have c33b2:(9223372036854775807<a.size+2+7+a2.size)=False:=eq_false (Nat.not_lt.2 u)
 by_cases v:a.size+2+7+a2.size+3≤9223372036854775807
 ·(
 rw[if_pos v]at H
 have c34b0:=eq_true v
 have c34b1:=zT v
 try have c34b2:(9223372036854775807<a.size+2+7+a2.size+3)=False:=eq_false (Nat.not_lt.2 v)
 obtain⟨R,X,H⟩:=sO H
 by_cases x:a.size+2+7+a2.size+3+R.size≤9223372036854775807
 ·(
 rw[if_pos x]at H
 have c36b0:=eq_true x
 have c36b1:=zT x
 try have c36b2:(9223372036854775807<a.size+2+7+a2.size+3+R.size)=False:=eq_false (Nat.not_lt.2 x)
 obtain rfl:=zI H
 go_wp2_with (first|((with_reducible refine gate_callee (f:=52) rfl ?_);refine sC (some 29) Tryd.func52 #[.int .i64 a1] (spec_l06Digits.calls kj4 a1 a _ j.out) ?_;rintro e az ⟨rfl,hb⟩;refine⟨_,rfl,?_⟩;replace b:=sK b hb;replace HB:=sB HB hb;(try clear hb);obtain⟨aA,aB,aC,aD,aE,aF,aG,aH⟩:=cells4 b.out)|((with_reducible refine gate_callee (f:=53) rfl ?_);refine sC (some 55) Tryd.func53 #[.agg #[.int .i64 a3_0,.int .i64 a3_1,.string a3_2,.int .i64 a3_3]] (spec_ValueText.calls kj4 a3_0 a3_1 a3_2 a3_3 R _ X.out) ?_;rintro e aI ⟨rfl,hb⟩;refine⟨_,rfl,?_⟩;replace b:=sK b hb;replace HB:=sB HB hb;(try clear hb)))
 go_ret
 exact⟨sq,sb⟩)
 rw[if_neg x]at H
 exact absurd H (by simp))
 rw[if_neg v]at H
 exact absurd H (by simp))
 rw[if_neg u]at H
 exact absurd H (by simp))
 rw[if_neg s]at H
 exact absurd H (by simp))
 rw[if_neg g]at H
 have c31b0:(a0==3)=false:=zN g
 have c31b1:(a0 !=3)=true:=zX g
 by_cases i:a0=4
 ·(
 rw[if_pos i]at H
 have c40b0:(a0==4)=true:=zE i
 have c40b1:(a0 !=4)=false:=zY i
 clear i
 by_cases y:a.size+2+5≤9223372036854775807
 ·(
 rw[if_pos y]at H
 have c41b0:=eq_true y
 have c41b1:=zT y
 try have c41b2:(9223372036854775807<a.size+2+5)=False:=eq_false (Nat.not_lt.2 y)
 by_cases z:a.size+2+5+a2.size≤9223372036854775807
 ·(
 rw[if_pos z]at H
 have c42b0:=eq_true z
 have c42b1:=zT z
 try have c42b2:(9223372036854775807<a.size+2+5+a2.size)=False:=eq_false (Nat.not_lt.2 z)
 obtain rfl:=zI H
 go_wp2_with (first|((with_reducible refine gate_callee (f:=52) rfl ?_);refine sC (some 29) Tryd.func52 #[.int .i64 a1] (spec_l06Digits.calls kj4 a1 a _ j.out) ?_;rintro e aJ ⟨rfl,hb⟩;refine⟨_,rfl,?_⟩;replace b:=sK b hb;replace HB:=sB HB hb;(try clear hb)))
 go_ret
 exact⟨sq,sb⟩)
 rw[if_neg z]at H
 exact absurd H (by simp))
 rw[if_neg y]at H
 exact absurd H (by simp))
 rw[if_neg i]at H
 have c40b0:(a0==4)=false:=zN i
 have c40b1:(a0 !=4)=true:=zX i
 by_cases A:a.size+2+5≤9223372036854775807
 ·(
 rw[if_pos A]at H
 have c44b0:=eq_true A
 have c44b1:=zT A
 try have c44b2:(9223372036854775807<a.size+2+5)=False:=eq_false (Nat.not_lt.2 A)
 by_cases B:a.size+2+5+a2.size≤9223372036854775807
 ·(
 rw[if_pos B]at H
 have c45b0:=eq_true B
 have c45b1:=zT B
 try have c45b2:(9223372036854775807<a.size+2+5+a2.size)=False:=eq_false (Nat.not_lt.2 B)
 obtain rfl:=zI H
 go_wp2_with (first|((with_reducible refine gate_callee (f:=52) rfl ?_);refine sC (some 29) Tryd.func52 #[.int .i64 a1] (spec_l06Digits.calls kj4 a1 a _ j.out) ?_;rintro e aK ⟨rfl,hb⟩;refine⟨_,rfl,?_⟩;replace b:=sK b hb;replace HB:=sB HB hb;(try clear hb)))
 go_ret
 exact⟨sq,sb⟩)
 rw[if_neg B]at H
 exact absurd H (by simp))
 rw[if_neg A]at H
 exact absurd H (by simp))
 rw[if_neg l]at H
 exact absurd H (by simp)))
def laws_FnExactTraceText.f (k:Nat) (a0:Int) (a1:Int) (a2:ByteArray) (a3_0:Int) (a3_1:Int) (a3_2:ByteArray) (a3_3:Int):Option (Bool):=if(a2.size:Int)>1048576 then(some true)else((laws_szValue.f a3_0 a3_1 a3_2 a3_3 1048576).bind fun t247=>(if t247<0 then(some true)else((laws_toValue.f a3_0 a3_1 a3_2 a3_3).bind fun bt248=>((spec_TraceText.f k a0 a1 a2 bt248.1 bt248.2.1 bt248.2.2.1 bt248.2.2.2).bind fun t252=>((laws_toValue.f a3_0 a3_1 a3_2 a3_3).bind fun bt253=>((impl_TraceText.f k a0 a1 a2 bt253.1 bt253.2.1 bt253.2.2.1 bt253.2.2.2).bind fun t257=>(if t257.toList=t252.toList then(some true)else(some false))))))))
set_option maxHeartbeats 8000000 in
set_option maxRecDepth 100000 in
theorem laws_FnExactTraceText.calls (k:Nat) (a0:Int) (a1:Int) (a2:ByteArray) (a3_0:Int) (a3_1:Int) (a3_2:ByteArray) (a3_3:Int) (w:World) (h:laws_FnExactTraceText.f k a0 a1 a2 a3_0 a3_1 a3_2 a3_3=some true) (HT:EnvT w):
  Calls Tryd.prog 5 #[.int .i64 a0,.int .i64 a1,.string a2,.agg #[.int .i64 a3_0,.int .i64 a3_1,.string a3_2,.int .i64 a3_3]] w fun e w'=>e= .returned (.bool true)∧Below w.heap.size w w':=by
 have J:=Tryd.underlying37
 have HB:=zM (Below.refl w.heap.size w)
 have H:(if(a2.size:Int)>1048576 then(some true)else((laws_szValue.f a3_0 a3_1 a3_2 a3_3 1048576).bind fun l=>(if l<0 then(some true)else((laws_toValue.f a3_0 a3_1 a3_2 a3_3).bind fun m=>((spec_TraceText.f k a0 a1 a2 m.1 m.2.1 m.2.2.1 m.2.2.2).bind fun c=>((laws_toValue.f a3_0 a3_1 a3_2 a3_3).bind fun d=>((impl_TraceText.f k a0 a1 a2 d.1 d.2.1 d.2.2.1 d.2.2.2).bind fun b=>(if b.toList=c.toList then(some true)else(some false)))))))))=some true:=h
 clear h
 by_cases i:(a2.size:Int)>1048576
 ·(
 rw[if_pos i]at H
 have c5b0:decide (1048576<(a2.size:Int))=true:=zT i
 have c5b1:decide (1048576<a2.size)=true:=zT (by omega)
 clear i
 clear H
 go_enter Tryd.func5,Tryd.ntmps5
 go_wp2_with (first|((with_reducible refine gate_dst (N:=7) rfl ?_);refine sV (N:=7) (cs:= #[.int .i64 a3_0,.int .i64 a3_1,.string a3_2,.int .i64 a3_3]) (t:=37) ?_;intro y hg K hbox hb;have a:=zM (hbox);have z:=sG HB hg;have A:=sG HB hg;replace HB:=sB HB hb;clear hb hbox hg))
 go_ret
 exact⟨sq,sb⟩)
 rw[if_neg i]at H
 have c5b0:decide (1048576<(a2.size:Int))=false:=zF i
 have c5b1:decide (1048576<a2.size)=false:=zF (by omega)
 clear i
 obtain⟨l,B,H⟩:=sO H
 by_cases j:l<0
 ·(
 rw[if_pos j]at H
 have c8b0:=zT j
 clear j
 clear H
 go_enter Tryd.func5,Tryd.ntmps5
 go_wp2_with (first|((with_reducible refine gate_dst (N:=7) rfl ?_);refine sV (N:=7) (cs:= #[.int .i64 a3_0,.int .i64 a3_1,.string a3_2,.int .i64 a3_3]) (t:=37) ?_;intro y hg L hbox hb;have a:=zM (hbox);have z:=sG HB hg;have A:=sG HB hg;replace HB:=sB HB hb;clear hb hbox hg;obtain⟨M,O,P,Q,R,S,T,U⟩:=cells4 a.out)|((with_reducible refine gate_callee (f:=18) rfl ?_);refine sC (some 17) Tryd.func18 #[.agg #[.int .i64 a3_0,.int .i64 a3_1,.string a3_2,.int .i64 a3_3],.int .i64 1048576] (laws_szValue.calls a3_0 a3_1 a3_2 a3_3 1048576 l _ B.out) ?_;rintro e V ⟨rfl,hb⟩;refine⟨_,rfl,?_⟩;replace a:=sK a hb;replace HB:=sB HB hb;(try clear hb)))
 go_ret
 exact⟨sq,sb⟩)
 rw[if_neg j]at H
 have c8b0:=zF j
 clear j
 replace H:=Option.bind_eq_some_iff.mp H
 obtain⟨⟨n,o,p,q⟩,C,H⟩:=H
 replace H:((spec_TraceText.f k a0 a1 a2 n o p q).bind fun c=>((laws_toValue.f a3_0 a3_1 a3_2 a3_3).bind fun d=>((impl_TraceText.f k a0 a1 a2 d.1 d.2.1 d.2.2.1 d.2.2.2).bind fun b=>(if b.toList=c.toList then(some true)else(some false)))))=some true:=H
 have E:=zM C
 clear C
 obtain⟨c,F,H⟩:=sO H
 replace H:=Option.bind_eq_some_iff.mp H
 obtain⟨⟨s,u,v,x⟩,D,H⟩:=H
 replace H:((impl_TraceText.f k a0 a1 a2 s u v x).bind fun b=>(if b.toList=c.toList then(some true)else(some false)))=some true:=H
 have G:=zM D
 clear D
 obtain⟨b,I,H⟩:=sO H
 by_cases g:b.toList=c.toList
 ·(
 rw[if_pos g]at H
 have c16b0:(b.toList==c.toList)=true:=zE g
 have c16b1:(b.toList !=c.toList)=false:=zY g
 clear g
 clear H
 go_enter Tryd.func5,Tryd.ntmps5
 go_wp2_with (first|((with_reducible refine gate_dst (N:=7) rfl ?_);refine sV (N:=7) (cs:= #[.int .i64 a3_0,.int .i64 a3_1,.string a3_2,.int .i64 a3_3]) (t:=37) ?_;intro y hg W hbox hb;have a:=zM (hbox);have z:=sG HB hg;have A:=sG HB hg;replace HB:=sB HB hb;clear hb hbox hg;obtain⟨X,Y,Z,aa,ab,ac,ad,ae⟩:=cells4 a.out)|((with_reducible refine gate_callee (f:=18) rfl ?_);refine sC (some 17) Tryd.func18 #[.agg #[.int .i64 a3_0,.int .i64 a3_1,.string a3_2,.int .i64 a3_3],.int .i64 1048576] (laws_szValue.calls a3_0 a3_1 a3_2 a3_3 1048576 l _ B.out) ?_;rintro e af ⟨rfl,hb⟩;refine⟨_,rfl,?_⟩;replace a:=sK a hb;replace HB:=sB HB hb;(try clear hb);obtain⟨ag,ah,ai,aj,ak,al,am,an⟩:=cells4 a.out)|((with_reducible refine gate_callee (f:=20) rfl ?_);refine sC (some 24) Tryd.func20 #[.agg #[.int .i64 a3_0,.int .i64 a3_1,.string a3_2,.int .i64 a3_3]] (laws_toValue.calls a3_0 a3_1 a3_2 a3_3 n o p q _ E.out) ?_;rintro e ao ⟨rfl,hb⟩;refine⟨_,rfl,?_⟩;replace a:=sK a hb;replace HB:=sB HB hb;(try clear hb))|((with_reducible refine gate_callee (f:=19) rfl ?_);refine sC (some 25) Tryd.func19 #[.int .i64 a0,.int .i64 a1,.string a2,.agg #[.int .i64 n,.int .i64 o,.string p,.int .i64 q]] (spec_TraceText.calls k a0 a1 a2 n o p q c _ F.out) ?_;rintro e ap ⟨rfl,hb⟩;refine⟨_,rfl,?_⟩;replace a:=sK a hb;replace HB:=sB HB hb;(try clear hb);obtain⟨aq,ar,au,av,aw,ax,ay,az⟩:=cells4 a.out)|((with_reducible refine gate_callee (f:=20) rfl ?_);refine sC (some 30) Tryd.func20 #[.agg #[.int .i64 a3_0,.int .i64 a3_1,.string a3_2,.int .i64 a3_3]] (laws_toValue.calls a3_0 a3_1 a3_2 a3_3 s u v x _ G.out) ?_;rintro e aA ⟨rfl,hb⟩;refine⟨_,rfl,?_⟩;replace a:=sK a hb;replace HB:=sB HB hb;(try clear hb))|((with_reducible refine gate_callee (f:=21) rfl ?_);refine sC (some 31) Tryd.func21 #[.int .i64 a0,.int .i64 a1,.string a2,.agg #[.int .i64 s,.int .i64 u,.string v,.int .i64 x]] (impl_TraceText.calls k a0 a1 a2 s u v x b _ I.out (by first|with_reducible exact HT|exact EnvT.below HT sb)) ?_;rintro e aB ⟨rfl,hb⟩;refine⟨_,rfl,?_⟩;replace a:=sK a hb;replace HB:=sB HB hb;(try clear hb)))
 go_ret
 exact⟨sq,sb⟩)
 rw[if_neg g]at H
 have c16b0:(b.toList==c.toList)=false:=zN g
 have c16b1:(b.toList !=c.toList)=true:=zX g
 exact absurd H (by simp)
end Go.Proofs.YtjmojijopammjaaDoor.PFnExactCaptureText
