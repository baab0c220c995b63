/- Printed functions: laws_szValue, laws_toValue, spec_l02Letter, spec_l02Digit, spec_l02NameEnd, spec_IsName. -/
import Derived.Test.YtjmojijopammjaaDoorYCtP0
namespace Go.Proofs.YtjmojijopammjaaDoor.PFnExactCaptureText
open Go.RowKit Go.Proofs.YtjmojijopammjaaDoorG Go.Proofs.YtjmojijopammjaaDoorW.PrintWords Go.Proofs.YtjmojijopammjaaDoorW.PrintLast Go.Proofs.YtjmojijopammjaaDoorW.PrintMore
attribute [local go_sem] max2_int min2_int max_two min_two max_three min_three max_four min_four
set_option linter.unusedVariables false
set_option linter.unusedSimpArgs false
def laws_szValue.f (a0_0:Int) (a0_1:Int) (a0_2:ByteArray) (a0_3:Int) (a1:Int):Option (Int):=if(wrap64 (a1-(a0_2.size:Int)))<0 then(some (-1))else(some (wrap64 (a1-(a0_2.size:Int))))
set_option maxHeartbeats 8000000 in
set_option maxRecDepth 100000 in
theorem laws_szValue.calls (a0_0:Int) (a0_1:Int) (a0_2:ByteArray) (a0_3:Int) (a1:Int) (r:Int) (w:World) (h:laws_szValue.f a0_0 a0_1 a0_2 a0_3 a1=some r):
  Calls Tryd.prog 18 #[.agg #[.int .i64 a0_0,.int .i64 a0_1,.string a0_2,.int .i64 a0_3],.int .i64 a1] w fun e w'=>e= .returned (.int .i64 r)∧Below w.heap.size w w':=by
 have i:=Tryd.underlying37
 have HB:=zM (Below.refl w.heap.size w)
 have H:(if(wrap64 (a1-(a0_2.size:Int)))<0 then(some (-1))else(some (wrap64 (a1-(a0_2.size:Int)))))=some r:=h
 clear h
 by_cases a:(wrap64 (a1-(a0_2.size:Int)))<0
 ·(
 rw[if_pos a]at H
 have c3b0:=zT a
 clear a
 obtain rfl:=zI H
 go_enter Tryd.func18,Tryd.ntmps18
 go_wp2_with (first|((with_reducible refine gate_dst (N:=2) rfl ?_);refine sV (N:=2) (cs:= #[.int .i64 a0_0,.int .i64 a0_1,.string a0_2,.int .i64 a0_3]) (t:=37) ?_;intro c hg j hbox hb;have b:=zM (hbox);have d:=sG HB hg;have g:=sG HB hg;replace HB:=sB HB hb;clear hb hbox hg;obtain⟨l,m,n,o,p,q,s,u⟩:=cells4 b.out))
 go_ret
 exact⟨sq,sb⟩)
 rw[if_neg a]at H
 have c3b0:=zF a
 clear a
 obtain rfl:=zI H
 go_enter Tryd.func18,Tryd.ntmps18
 go_wp2_with (first|((with_reducible refine gate_dst (N:=2) rfl ?_);refine sV (N:=2) (cs:= #[.int .i64 a0_0,.int .i64 a0_1,.string a0_2,.int .i64 a0_3]) (t:=37) ?_;intro c hg v hbox hb;have b:=zM (hbox);have d:=sG HB hg;have g:=sG HB hg;replace HB:=sB HB hb;clear hb hbox hg;obtain⟨x,y,z,A,B,C,D,E⟩:=cells4 b.out))
 go_ret
 exact⟨sq,sb⟩
def laws_toValue.f (a0_0:Int) (a0_1:Int) (a0_2:ByteArray) (a0_3:Int):Option (Int×Int×ByteArray×Int):=some (a0_0,a0_1,a0_2,a0_3)
set_option maxHeartbeats 8000000 in
set_option maxRecDepth 100000 in
theorem laws_toValue.calls (a0_0:Int) (a0_1:Int) (a0_2:ByteArray) (a0_3:Int) (r1:Int) (r2:Int) (r3:ByteArray) (r4:Int) (w:World) (h:laws_toValue.f a0_0 a0_1 a0_2 a0_3=some (r1,r2,r3,r4)):
  Calls Tryd.prog 20 #[.agg #[.int .i64 a0_0,.int .i64 a0_1,.string a0_2,.int .i64 a0_3]] w fun e w'=>e= .returned (.agg #[.int .i64 r1,.int .i64 r2,.string r3,.int .i64 r4])∧Below w.heap.size w w':=by
 have o:=Tryd.underlying37
 have p:=Tryd.underlying40
 have HB:=zM (Below.refl w.heap.size w)
 have H:(some (a0_0,a0_1,a0_2,a0_3))=some (r1,r2,r3,r4):=h
 clear h
 simp only[Option.some.injEq,Prod.mk.injEq]at H
 obtain⟨rfl,rfl,rfl,rfl⟩:=H
 go_enter Tryd.func20,Tryd.ntmps20
 go_wp2_with (first|((with_reducible refine gate_dst (N:=1) rfl ?_);refine sV (N:=1) (cs:= #[.int .i64 a0_0,.int .i64 a0_1,.string a0_2,.int .i64 a0_3]) (t:=37) ?_;intro q hg s hbox hb;have a:=zM (hbox);have u:=sG HB hg;have v:=sG HB hg;replace HB:=sB HB hb;clear hb hbox hg)|((with_reducible refine gate_dst (N:=2) rfl ?_);refine sV (N:=2) (cs:= #[.int .i64 0,.int .i64 0,.string (⟨#[]⟩:ByteArray),.int .i64 0]) (t:=40) ?_;intro d hg x hbox hb;have b:=zM (hbox);have y:=sG HB hg;have z:=sG HB hg;replace HB:=sB HB hb;have g:=sN a hg;have i:=sM a hg;replace a:=sK a hb;clear hb hbox hg)|((with_reducible refine gate_dst (N:=3) rfl ?_);refine sV (N:=3) (cs:= #[.int .i64 0,.int .i64 0,.string (⟨#[]⟩:ByteArray),.int .i64 0]) (t:=40) ?_;intro A hg B hbox hb;have j:=zM (hbox);have C:=sG HB hg;have D:=sG HB hg;replace HB:=sB HB hb;have l:=sN a hg;have m:=sM a hg;replace a:=sK a hb;have c:=sN b hg;have n:=sM b hg;replace b:=sK b hb;clear hb hbox hg;have E:=g.out;have F:=i.out;have G:=l.out;have I:=m.out;obtain⟨J,K,L,M,O,P,Q,R⟩:=cells4 a.out;have S:=n.out;have T:=c.out;obtain⟨U,V,W,X,Y,Z,aa,ab⟩:=cells4 j.out;obtain⟨ac,ad,ae,af,ag,ah,ai,aj⟩:=cells4 b.out))
 refine bodyPost_ret (results_cell_row rfl _ _ d 40 #[.int .i64 a0_0,.int .i64 a0_1,.string a0_2,.int .i64 a0_3] (0,0) _ rfl (by(with_reducible repeat(first|refine blk_drewN ?_ _|refine blk_drew ?_|refine blk_alloc ?_ _));refine blk_put (cs:= #[.int .i64 a0_0,.int .i64 a0_1,.string a0_2,.int .i64 0]) ?_ 3 _ rfl;(with_reducible repeat(first|refine blk_drewN ?_ _|refine blk_drew ?_|refine blk_alloc ?_ _));refine blk_put (cs:= #[.int .i64 a0_0,.int .i64 a0_1,.string (⟨#[]⟩:ByteArray),.int .i64 0]) ?_ 2 _ rfl;(with_reducible repeat(first|refine blk_drewN ?_ _|refine blk_drew ?_|refine blk_alloc ?_ _));refine blk_put (cs:= #[.int .i64 a0_0,.int .i64 0,.string (⟨#[]⟩:ByteArray),.int .i64 0]) ?_ 1 _ rfl;(with_reducible repeat(first|refine blk_drewN ?_ _|refine blk_drew ?_|refine blk_alloc ?_ _));refine blk_put (cs:= #[.int .i64 0,.int .i64 0,.string (⟨#[]⟩:ByteArray),.int .i64 0]) ?_ 0 _ rfl;(with_reducible repeat(first|refine blk_drewN ?_ _|refine blk_drew ?_|refine blk_alloc ?_ _));refine blk_far ?_ c.out _;(with_reducible repeat(first|refine blk_drewN ?_ _|refine blk_drew ?_|refine blk_alloc ?_ _));refine blk_far ?_ c.out _;(with_reducible repeat(first|refine blk_drewN ?_ _|refine blk_drew ?_|refine blk_alloc ?_ _));refine blk_far ?_ c.out _;(with_reducible repeat(first|refine blk_drewN ?_ _|refine blk_drew ?_|refine blk_alloc ?_ _));refine blk_far ?_ c.out _;exact sT b.out) Tryd.underlying40 rfl (by kernel_rfl)) rfl ?_
 exact⟨sq,sb⟩
def spec_l02Letter.f (a0:Int):Option (Bool):=if a0≥65 then(if a0≤90 then(some true)else(if a0≥97 then(some (decide (a0≤122)))else(some false)))else(if a0≥97 then(some (decide (a0≤122)))else(some false))
set_option maxHeartbeats 8000000 in
set_option maxRecDepth 100000 in
theorem spec_l02Letter.calls (a0:Int) (r:Bool) (w:World) (h:spec_l02Letter.f a0=some r):
  Calls Tryd.prog 121 #[.int .u8 a0] w fun e w'=>e= .returned (.bool r)∧Drawn0 w w':=by
 have H:(if a0≥65 then(if a0≤90 then(some true)else(if a0≥97 then(some (decide (a0≤122)))else(some false)))else(if a0≥97 then(some (decide (a0≤122)))else(some false)))=some r:=h
 clear h
 by_cases a:a0≥65
 ·(
 rw[if_pos a]at H
 have c2b0:decide (65≤a0)=true:=zT a
 clear a
 by_cases b:a0≤90
 ·(
 rw[if_pos b]at H
 have c3b0:=zT b
 clear b
 obtain rfl:=zI H
 go_enter Tryd.func121,Tryd.ntmps121
 go_wp2
 go_ret
 exact⟨by first|rfl|(simp;done)|(simp[*];done),by repeat(first|exact Drawn0.refl _|apply Drawn0.step)⟩)
 rw[if_neg b]at H
 have c3b0:=zF b
 clear b
 by_cases c:a0≥97
 ·(
 rw[if_pos c]at H
 have c4b0:decide (97≤a0)=true:=zT c
 clear c
 obtain rfl:=zI H
 go_enter Tryd.func121,Tryd.ntmps121
 go_wp2
 go_ret
 exact⟨by first|rfl|(simp;done)|(simp[*];done),by repeat(first|exact Drawn0.refl _|apply Drawn0.step)⟩)
 rw[if_neg c]at H
 have c4b0:decide (97≤a0)=false:=zF c
 clear c
 obtain rfl:=zI H
 go_enter Tryd.func121,Tryd.ntmps121
 go_wp2
 go_ret
 exact⟨by first|rfl|(simp;done)|(simp[*];done),by repeat(first|exact Drawn0.refl _|apply Drawn0.step)⟩)
 rw[if_neg a]at H
 have c2b0:decide (65≤a0)=false:=zF a
 clear a
 by_cases d:a0≥97
 ·(
 rw[if_pos d]at H
 have c5b0:decide (97≤a0)=true:=zT d
 clear d
 obtain rfl:=zI H
 go_enter Tryd.func121,Tryd.ntmps121
 go_wp2
 go_ret
 exact⟨by first|rfl|(simp;done)|(simp[*];done),by repeat(first|exact Drawn0.refl _|apply Drawn0.step)⟩)
 rw[if_neg d]at H
 have c5b0:decide (97≤a0)=false:=zF d
 clear d
 obtain rfl:=zI H
 go_enter Tryd.func121,Tryd.ntmps121
 go_wp2
 go_ret
 exact⟨by first|rfl|(simp;done)|(simp[*];done),by repeat(first|exact Drawn0.refl _|apply Drawn0.step)⟩
def spec_l02Digit.f (a0:Int):Option (Bool):=if a0≥48 then(some (decide (a0≤57)))else(some false)
set_option maxHeartbeats 8000000 in
set_option maxRecDepth 100000 in
theorem spec_l02Digit.calls (a0:Int) (r:Bool) (w:World) (h:spec_l02Digit.f a0=some r):
  Calls Tryd.prog 122 #[.int .u8 a0] w fun e w'=>e= .returned (.bool r)∧Drawn0 w w':=by
 have H:(if a0≥48 then(some (decide (a0≤57)))else(some false))=some r:=h
 clear h
 by_cases a:a0≥48
 ·(
 rw[if_pos a]at H
 have c2b0:decide (48≤a0)=true:=zT a
 clear a
 obtain rfl:=zI H
 go_enter Tryd.func122,Tryd.ntmps122
 go_wp2
 go_ret
 exact⟨by first|rfl|(simp;done)|(simp[*];done),by repeat(first|exact Drawn0.refl _|apply Drawn0.step)⟩)
 rw[if_neg a]at H
 have c2b0:decide (48≤a0)=false:=zF a
 clear a
 obtain rfl:=zI H
 go_enter Tryd.func122,Tryd.ntmps122
 go_wp2
 go_ret
 exact⟨by first|rfl|(simp;done)|(simp[*];done),by repeat(first|exact Drawn0.refl _|apply Drawn0.step)⟩
mutual
def spec_l02NameEnd.j0 : Nat → ByteArray → Int → Bool → Option (Int)
 |0,_,_,_=>none
 |k+1,x0,x1,x15=>if x15=true then(some x1)else(spec_l02NameEnd.l0 k x0 x1)
def spec_l02NameEnd.l0 : Nat → ByteArray → Int → Option (Int)
 |0,_,_=>none
 |k+1,x0,x1=>if x1<(x0.size:Int)then(if 0≤x1 then((spec_l02Letter.f (bt x0 x1)).bind fun t179=>(if t179=true then(spec_l02NameEnd.l0 k x0 (wrap64 (x1+1)))else((spec_l02Digit.f (bt x0 x1)).bind fun t180=>(if t180=true then(spec_l02NameEnd.l0 k x0 (wrap64 (x1+1)))else(if(bt x0 x1)=95 then(spec_l02NameEnd.l0 k x0 (wrap64 (x1+1)))else(some x1))))))else(none))else(some x1)
end
def spec_l02NameEnd.f (k:Nat) (a0:ByteArray) (a1:Int):Option (Int):=if a1≥(a0.size:Int)then(spec_l02NameEnd.j0 k a0 a1 true)else(if 0≤a1 then(if a1<(a0.size:Int)then((spec_l02Letter.f (bt a0 a1)).bind fun t178=>(spec_l02NameEnd.j0 k a0 a1 (!t178)))else(none))else(none))
set_option maxHeartbeats 8000000 in
set_option maxRecDepth 100000 in
theorem spec_l02NameEnd.calls (k:Nat) (a0:ByteArray) (a1:Int) (r:Int) (w:World) (h:spec_l02NameEnd.f k a0 a1=some r):
  Calls Tryd.prog 88 #[.string a0,.int .i64 a1] w fun e w'=>e= .returned (.int .i64 r)∧Drawn0 w w':=by
 have H:(if a1≥(a0.size:Int)then(spec_l02NameEnd.j0 k a0 a1 true)else(if 0≤a1 then(if a1<(a0.size:Int)then((spec_l02Letter.f (bt a0 a1)).bind fun s=>(spec_l02NameEnd.j0 k a0 a1 (!s)))else(none))else(none)))=some r:=h
 clear h
 have C:=zM H
 clear H
 go_enter Tryd.func88,Tryd.ntmps88
 go_upto_region 1 with(fail)
 go_cut [15] (fun J wc=>∃(kq:Nat) (u:Bool),J= .bool u∧Aside0 (spec_l02NameEnd.j0 kq a0 a1 u=some r)∧Aside0 (kq≤k)∧Drawn0 w wc)
 case first=>(
 have H:=C.out
 clear C
 by_cases j:a1≥(a0.size:Int)
 ·(
 rw[if_pos j]at H
 have c4b0:decide ((a0.size:Int)≤a1)=true:=zT j
 clear j
 (first|rw[c4b0]|(simp only[i64_w,i32_w];rw[c4b0])|rw[c4b2]|skip)
 have H':=zM H
 clear H
 go_wp2
 go_meet
 case rel=>exact⟨_,(true),sr,H',⟨by first|omega|exact Nat.le_refl _⟩,by repeat(first|exact Drawn0.refl _|apply Drawn0.step)⟩)
 rw[if_neg j]at H
 have c4b0:decide ((a0.size:Int)≤a1)=false:=zF j
 clear j
 (first|rw[c4b0]|(simp only[i64_w,i32_w];rw[c4b0])|rw[c4b2]|skip)
 by_cases v:0≤a1
 ·(
 rw[if_pos v]at H
 have c5b0:=zT v
 clear v
 by_cases x:a1<(a0.size:Int)
 ·(
 rw[if_pos x]at H
 have c6b0:=zT x
 clear x
 obtain⟨s,K,H⟩:=sO H
 have H':=zM H
 clear H
 have F:0≤(a1:Int):=zzA
 have G:a1<(a0.size:Int):=zzA
 have Q:=bt_at a0 a1
 replace F:=eq_true F
 replace G:=eq_true G
 go_wp2_with (first|(go_at_call 121;(with_reducible refine(spec_l02Letter.calls (bt a0 a1) s _ K.out).mono ?_);rintro e w' ⟨rfl,⟨nd,rfl⟩⟩))
 go_meet
 case rel=>exact⟨_,(!s),sr,H',⟨by first|omega|exact Nat.le_refl _⟩,by repeat(first|exact Drawn0.refl _|apply Drawn0.step)⟩)
 rw[if_neg x]at H
 exact absurd H (by simp))
 rw[if_neg v]at H
 exact absurd H (by simp))
 case rest=>(
 clear C
 obtain⟨kq,u,rfl,HA,l,⟨R,rfl⟩⟩:=hcut
 cases kq with
 |zero=>exact absurd HA.out (by simp[spec_l02NameEnd.j0])
 |succ kj2=>(
 have H:=HA.out
 clear HA
 simp only[spec_l02NameEnd.j0]at H
 by_cases o:u=true
 ·(
 subst o
 rewrite[if_pos rfl]at H
 obtain rfl:=zI H
 go_wp2
 go_ret
 exact⟨by first|rfl|(simp;done)|(simp[*];done),by repeat(first|exact Drawn0.refl _|apply Drawn0.step)⟩)
 replace o:=zB o
 subst o
 rewrite[if_neg zQ]at H
 have H':=zM H
 clear H
 go_wp2
 go_loopg [1] kj2 (fun kq L w'=>∃(a:Int),L= .int .i64 a∧Aside0 (spec_l02NameEnd.l0 kq a0 a=some r)∧Aside0 (kq≤kj2)∧Drawn0 w w')
 case atStart=>exact⟨(a1),sr,H',⟨Nat.le_refl _⟩,by repeat(first|exact Drawn0.refl _|apply Drawn0.step)⟩
 case round=>(
 clear H'
 try clear o
 obtain⟨a,rfl,HA,m,⟨S,rfl⟩⟩:=hrel
 cases gk with
 |zero=>exact absurd HA.out (by simp[spec_l02NameEnd.l0])
 |succ k2=>(
 have H:=HA.out
 clear HA
 simp only[spec_l02NameEnd.l0]at H
 by_cases n:a<(a0.size:Int)
 ·(
 rw[if_pos n]at H
 have c10b0:=zT n
 clear n
 by_cases y:0≤a
 ·(
 rw[if_pos y]at H
 have c11b0:=zT y
 clear y
 obtain⟨M,z,H⟩:=sO H
 by_cases A:M=true
 ·(
 subst A
 rewrite[if_pos rfl]at H
 have H':=zM H
 clear H
 have b:0≤(a:Int):=zzA
 have c:a<(a0.size:Int):=zzA
 have D:=bt_at a0 a
 replace b:=eq_true b
 replace c:=eq_true c
 go_wp2_with (first|(go_at_call 121;(with_reducible refine(spec_l02Letter.calls (bt a0 a) true _ z.out).mono ?_);rintro e w' ⟨rfl,⟨nd,rfl⟩⟩))
 go_roundg k2
 case measure=>have:=l.out;have:=m.out;omega
 case rel=>exact⟨(wrap64 (a+1)),sr,H',⟨by have:=l.out;have:=m.out;omega⟩,by repeat(first|exact Drawn0.refl _|apply Drawn0.step)⟩)
 replace A:=zB A
 subst A
 rewrite[if_neg zQ]at H
 obtain⟨O,E,H⟩:=sO H
 by_cases B:O=true
 ·(
 subst B
 rewrite[if_pos rfl]at H
 have H':=zM H
 clear H
 have b:0≤(a:Int):=zzA
 have c:a<(a0.size:Int):=zzA
 have D:=bt_at a0 a
 replace b:=eq_true b
 replace c:=eq_true c
 go_wp2_with (first|(go_at_call 121;(with_reducible refine(spec_l02Letter.calls (bt a0 a) false _ z.out).mono ?_);rintro e w' ⟨rfl,⟨nd,rfl⟩⟩;have d:0≤(a:Int):=zzA;have g:a<(a0.size:Int):=zzA;have I:=bt_at a0 a;replace d:=eq_true d;replace g:=eq_true g)|(go_at_call 122;(with_reducible refine(spec_l02Digit.calls (bt a0 a) true _ E.out).mono ?_);rintro e w' ⟨rfl,⟨nd,rfl⟩⟩))
 go_roundg k2
 case measure=>have:=l.out;have:=m.out;omega
 case rel=>exact⟨(wrap64 (a+1)),sr,H',⟨by have:=l.out;have:=m.out;omega⟩,by repeat(first|exact Drawn0.refl _|apply Drawn0.step)⟩)
 replace B:=zB B
 subst B
 rewrite[if_neg zQ]at H
 by_cases i:(bt a0 a)=95
 ·(
 rw[if_pos i]at H
 have c19b0:((bt a0 a)==95)=true:=zE i
 have c19b1:((bt a0 a) !=95)=false:=zY i
 clear i
 have H':=zM H
 clear H
 have b:0≤(a:Int):=zzA
 have c:a<(a0.size:Int):=zzA
 have D:=bt_at a0 a
 replace b:=eq_true b
 replace c:=eq_true c
 go_wp2_with (first|(go_at_call 121;(with_reducible refine(spec_l02Letter.calls (bt a0 a) false _ z.out).mono ?_);rintro e w' ⟨rfl,⟨nd,rfl⟩⟩;have d:0≤(a:Int):=zzA;have g:a<(a0.size:Int):=zzA;have I:=bt_at a0 a;replace d:=eq_true d;replace g:=eq_true g)|(go_at_call 122;(with_reducible refine(spec_l02Digit.calls (bt a0 a) false _ E.out).mono ?_);rintro e w' ⟨rfl,⟨nd,rfl⟩⟩;have p:0≤(a:Int):=zzA;have q:a<(a0.size:Int):=zzA;have P:=bt_at a0 a;replace p:=eq_true p;replace q:=eq_true q))
 go_roundg k2
 case measure=>have:=l.out;have:=m.out;omega
 case rel=>exact⟨(wrap64 (a+1)),sr,H',⟨by have:=l.out;have:=m.out;omega⟩,by repeat(first|exact Drawn0.refl _|apply Drawn0.step)⟩)
 rw[if_neg i]at H
 have c19b0:((bt a0 a)==95)=false:=zN i
 have c19b1:((bt a0 a) !=95)=true:=zX i
 obtain rfl:=zI H
 have b:0≤(a:Int):=zzA
 have c:a<(a0.size:Int):=zzA
 have D:=bt_at a0 a
 replace b:=eq_true b
 replace c:=eq_true c
 go_wp2_with (first|(go_at_call 121;(with_reducible refine(spec_l02Letter.calls (bt a0 a) false _ z.out).mono ?_);rintro e w' ⟨rfl,⟨nd,rfl⟩⟩;have d:0≤(a:Int):=zzA;have g:a<(a0.size:Int):=zzA;have I:=bt_at a0 a;replace d:=eq_true d;replace g:=eq_true g)|(go_at_call 122;(with_reducible refine(spec_l02Digit.calls (bt a0 a) false _ E.out).mono ?_);rintro e w' ⟨rfl,⟨nd,rfl⟩⟩;have p:0≤(a:Int):=zzA;have q:a<(a0.size:Int):=zzA;have P:=bt_at a0 a;replace p:=eq_true p;replace q:=eq_true q))
 go_ret
 exact⟨by first|rfl|(simp;done)|(simp[*];done),by repeat(first|exact Drawn0.refl _|apply Drawn0.step)⟩)
 rw[if_neg y]at H
 exact absurd H (by simp))
 rw[if_neg n]at H
 have c10b0:=zF n
 clear n
 obtain rfl:=zI H
 go_wp2
 go_ret
 exact⟨by first|rfl|(simp;done)|(simp[*];done),by repeat(first|exact Drawn0.refl _|apply Drawn0.step)⟩))))
def spec_IsName.f (k:Nat) (a0:ByteArray):Option (Bool):=if a0.toList=([]:List UInt8)then(some false)else(if(a0.size:Int)≤12 then((spec_l02NameEnd.f k a0 0).bind fun t181=>(some (t181==(a0.size:Int))))else(some false))
set_option maxHeartbeats 8000000 in
set_option maxRecDepth 100000 in
theorem spec_IsName.calls (k:Nat) (a0:ByteArray) (r:Bool) (w:World) (h:spec_IsName.f k a0=some r):
  Calls Tryd.prog 50 #[.string a0] w fun e w'=>e= .returned (.bool r)∧Drawn0 w w':=by
 have H:(if a0.toList=([]:List UInt8)then(some false)else(if(a0.size:Int)≤12 then((spec_l02NameEnd.f k a0 0).bind fun c=>(some (c==(a0.size:Int))))else(some false)))=some r:=h
 clear h
 by_cases a:a0.toList=([]:List UInt8)
 ·(
 rw[if_pos a]at H
 have c2b0:(a0.toList==([]:List UInt8))=true:=zE a
 have c2b1:(a0.toList !=([]:List UInt8))=false:=zY a
 have c2b2:a0.toList.isEmpty=true:=by simpa using a
 clear a
 obtain rfl:=zI H
 go_enter Tryd.func50,Tryd.ntmps50
 go_wp2
 go_ret
 exact⟨by first|rfl|(simp;done)|(simp[*];done),by repeat(first|exact Drawn0.refl _|apply Drawn0.step)⟩)
 rw[if_neg a]at H
 have c2b0:(a0.toList==([]:List UInt8))=false:=zN a
 have c2b1:(a0.toList !=([]:List UInt8))=true:=zX a
 have c2b2:a0.toList.isEmpty=false:=by simpa using a
 by_cases b:(a0.size:Int)≤12
 ·(
 rw[if_pos b]at H
 have c3b0:=zT b
 have c3b1:decide (a0.size≤12)=true:=zT (by omega)
 clear b
 obtain⟨c,d,H⟩:=sO H
 obtain rfl:=zI H
 go_enter Tryd.func50,Tryd.ntmps50
 go_wp2_with (first|(go_at_call 88;(with_reducible refine(spec_l02NameEnd.calls k a0 0 c _ d.out).mono ?_);rintro e w' ⟨rfl,⟨nd,rfl⟩⟩))
 go_ret
 exact⟨by first|rfl|(simp;done)|(simp[*];done),by repeat(first|exact Drawn0.refl _|apply Drawn0.step)⟩)
 rw[if_neg b]at H
 have c3b0:=zF b
 have c3b1:decide (a0.size≤12)=false:=zF (by omega)
 clear b
 obtain rfl:=zI H
 go_enter Tryd.func50,Tryd.ntmps50
 go_wp2
 go_ret
 exact⟨by first|rfl|(simp;done)|(simp[*];done),by repeat(first|exact Drawn0.refl _|apply Drawn0.step)⟩
end Go.Proofs.YtjmojijopammjaaDoor.PFnExactCaptureText
