/- Printed functions: spec_l26Valid, spec_l26Text, spec_FieldsText. -/
import Derived.Test.YtjmojijopammjaaDoorYCtP0
import Derived.Test.YtjmojijopammjaaDoorYCtP4
import Derived.Test.YtjmojijopammjaaDoorYCtP8
namespace Go.Proofs.YtjmojijopammjaaDoor.PFnExactCaptureText
open Go.RowKit Go.Proofs.YtjmojijopammjaaDoorG Go.Proofs.YtjmojijopammjaaDoorW.PrintWords Go.Proofs.YtjmojijopammjaaDoorW.PrintLast Go.Proofs.YtjmojijopammjaaDoorW.PrintMore
attribute [local go_sem] max2_int min2_int max_two min_two max_three min_three max_four min_four
set_option linter.unusedVariables false
set_option linter.unusedSimpArgs false
def spec_l26Valid.f (a0_0:Bool) (a0_1:Int) (a0_2:ByteArray):Option (Bool):=if a0_0=true then(some (a0_1==0))else(if a0_2.toList=([]:List UInt8)then((spec_l00In.f a0_1 (-1000000000000000) 1000000000000000).bind fun t273=>(some t273))else(some false))
set_option maxHeartbeats 8000000 in
set_option maxRecDepth 100000 in
theorem spec_l26Valid.calls (a0_0:Bool) (a0_1:Int) (a0_2:ByteArray) (r:Bool) (w:World) (h:spec_l26Valid.f a0_0 a0_1 a0_2=some r):
  Calls Tryd.prog 40 #[.agg #[.bool a0_0,.int .i64 a0_1,.string a0_2]] w fun e w'=>e= .returned (.bool r)∧Below w.heap.size w w':=by
 have n:=Tryd.underlying64
 have HB:=zM (Below.refl w.heap.size w)
 have H:(if a0_0=true then(some (a0_1==0))else(if a0_2.toList=([]:List UInt8)then((spec_l00In.f a0_1 (-1000000000000000) 1000000000000000).bind fun g=>(some g))else(some false)))=some r:=h
 clear h
 by_cases d:a0_0=true
 ·(
 subst d
 rewrite[if_pos rfl]at H
 obtain rfl:=zI H
 go_enter Tryd.func40,Tryd.ntmps40
 go_wp2_with (first|((with_reducible refine gate_dst (N:=1) rfl ?_);refine sV (N:=1) (cs:= #[.bool true,.int .i64 a0_1,.string a0_2]) (t:=64) ?_;intro i hg o hbox hb;have c:=zM (hbox);have j:=sG HB hg;have l:=sG HB hg;replace HB:=sB HB hb;clear hb hbox hg;obtain⟨p,q,s,u,v,x⟩:=cells3 c.out))
 go_ret
 exact⟨sq,sb⟩)
 replace d:=zB d
 subst d
 rewrite[if_neg zQ]at H
 by_cases a:a0_2.toList=([]:List UInt8)
 ·(
 rw[if_pos a]at H
 have c5b0:(a0_2.toList==([]:List UInt8))=true:=zE a
 have c5b1:(a0_2.toList !=([]:List UInt8))=false:=zY a
 have c5b2:a0_2.toList.isEmpty=true:=by simpa using a
 clear a
 obtain⟨g,m,H⟩:=sO H
 obtain rfl:=zI H
 go_enter Tryd.func40,Tryd.ntmps40
 go_wp2_with (first|((with_reducible refine gate_dst (N:=1) rfl ?_);refine sV (N:=1) (cs:= #[.bool false,.int .i64 a0_1,.string a0_2]) (t:=64) ?_;intro i hg y hbox hb;have c:=zM (hbox);have j:=sG HB hg;have l:=sG HB hg;replace HB:=sB HB hb;clear hb hbox hg;obtain⟨z,A,B,D,E,F⟩:=cells3 c.out)|(go_at_call 49;(with_reducible refine(spec_l00In.calls a0_1 (-1000000000000000) 1000000000000000 g _ m.out).mono ?_);rintro e w' ⟨rfl,⟨nd,rfl⟩⟩))
 go_ret
 exact⟨sq,sb⟩)
 rw[if_neg a]at H
 have c5b0:(a0_2.toList==([]:List UInt8))=false:=zN a
 have c5b1:(a0_2.toList !=([]:List UInt8))=true:=zX a
 have c5b2:a0_2.toList.isEmpty=false:=by simpa using a
 obtain rfl:=zI H
 go_enter Tryd.func40,Tryd.ntmps40
 go_wp2_with (first|((with_reducible refine gate_dst (N:=1) rfl ?_);refine sV (N:=1) (cs:= #[.bool false,.int .i64 a0_1,.string a0_2]) (t:=64) ?_;intro i hg G hbox hb;have c:=zM (hbox);have j:=sG HB hg;have l:=sG HB hg;replace HB:=sB HB hb;clear hb hbox hg;obtain⟨I,J,K,L,M,O⟩:=cells3 c.out))
 go_ret
 exact⟨sq,sb⟩
mutual
def spec_l26Text.l0 : Nat → List (S64) → List Int → Int → Option (ByteArray)
 |0,_,_,_=>none
 |k+1,x0,x3,x4=>if x4<(x0.length:Int)then(if x4>0 then(if x3.length<140737488355328 then(spec_l26Text.j1 k x0 (x3++[32]) x4)else(none))else(spec_l26Text.j1 k x0 x3 x4))else(some (strOfNums x3))
def spec_l26Text.j1 : Nat → List (S64) → List Int → Int → Option (ByteArray)
 |0,_,_,_=>none
 |k+1,x0,x3,x4=>if 0≤x4 then(if x4<(x0.length:Int)then(if(rd_T64 x0 x4).f0=true then((spec_l11Literal.f k ((rd_T64 x0 x4).f2)).bind fun t282=>(if x3.length+t282.size<140737488355328 then(spec_l26Text.l0 k x0 (x3++bytesOf t282) (wrap64 (x4+1)))else(none)))else((spec_l06Digits.f k ((rd_T64 x0 x4).f1)).bind fun t287=>(if x3.length+t287.size<140737488355328 then(spec_l26Text.l0 k x0 (x3++bytesOf t287) (wrap64 (x4+1)))else(none))))else(none))else(none)
end
def spec_l26Text.f (k:Nat) (l0:List (S64)):Option (ByteArray):=spec_l26Text.l0 k l0 (([]:List Int)) 0
set_option maxHeartbeats 8000000 in
set_option maxRecDepth 100000 in
theorem spec_l26Text.calls (k:Nat) (A0:Option Addr) (c0:Nat) (l0:List (S64)) (r:ByteArray) (w:World) (hr0:Kd.C k64 w A0 l0.length l0) (hc0:l0.length≤c0) (h:spec_l26Text.f k l0=some r):
  Calls Tryd.prog 41 #[.slice A0 l0.length c0] w fun e w'=>e= .returned (.string r)∧Below w.heap.size w w':=by
 have A:=zM hr0
 have az:=zM hc0
 clear hr0 hc0
 have HB:=zM (Below.refl w.heap.size w)
 have H:(spec_l26Text.l0 k l0 (([]:List Int)) 0)=some r:=h
 clear h
 obtain⟨y274,hy274⟩:∃i:List Int,i=(([]:List Int)):=⟨_,rfl⟩
 replace H:(spec_l26Text.l0 k l0 y274 0)=some r:=by first|(rw[hy274];with_reducible exact H)|(have c:=(Option.bind_some _ _).symm.trans H;rw[hy274];with_reducible exact c)|(have c:=(Option.bind_some _ _).symm.trans H;with_reducible exact c)|with_reducible exact H|(rw[hy274];exact H)|exact H
 have Y:=zM hy274
 clear hy274
 have H':=zM H
 clear H
 go_enter Tryd.func41,Tryd.ntmps41
 go_wp2_with (first|((with_reducible refine gate_dst (N:=5) rfl ?_);refine Kd.R_lit (Kd.int .u8) _ 5 ?hg (N:=5) ?hd (xs:=([]:List Int)) (inner:=[]) (ok:=fun _=>True) (okp:=fun _=>True) ?hr ?hp (fun _ hk=>hk) trivial (Below.refl _ _) (Nat.le_refl _) (by simp) ?_;(case hd=>rfl);(case hg=>rfl);(case hr=>first|(go_simp;done)|(go_simp;rfl));(case hp=>exact(Reps.none _ _));intro aA w2 v hb ad ae;clear ad ae;(first|rw[←Y.out]at v|(simp only[Int.reduceToNat]at v;rw[←Y.out]at v));have af:=zM (Kd.R_lower v (below_size (sH HB.out)));replace HB:=sB HB hb;clear hb v))
 go_loopg [3,4] k (fun kq L v4 w'=>∃(j:List Int) (a:Int),v4= .int .i64 a∧Aside0 (spec_l26Text.l0 kq l0 j a=some r)∧Aside0 (kq≤k)∧Aside0 (Kd.R (Kd.int .u8) 5 w' w.heap.size (fun _=>True) L j)∧Aside0 (Below w.heap.size w w'))
 case atStart=>exact⟨(y274),(0),sr,H',⟨Nat.le_refl _⟩,⟨by exact sE af.out⟩,⟨sb⟩⟩
 case round=>(
 clear H'
 obtain⟨j,a,rfl,HA,s,d,HB⟩:=hrel
 cases gk with
 |zero=>exact absurd HA.out (by simp[spec_l26Text.l0])
 |succ k1=>(
 have H:=HA.out
 clear HA
 simp only[spec_l26Text.l0]at H
 by_cases l:a<(l0.length:Int)
 ·(
 rw[if_pos l]at H
 have c4b0:=zT l
 clear l
 have M:=zM H
 clear H
 go_upto_if 13 with(fail)
 go_cut [3] (fun L wc=>∃(kq:Nat) (g:List Int),Aside0 (spec_l26Text.j1 kq l0 g a=some r)∧Aside0 (kq≤k1)∧Aside0 (Kd.R (Kd.int .u8) 5 wc w.heap.size (fun _=>True) L g)∧Aside0 (Below w.heap.size w wc))
 case first=>(
 have H:=M.out
 clear M
 by_cases u:a>0
 ·(
 rw[if_pos u]at H
 have c6b0:decide (0<a)=true:=zT u
 clear u
 (first|rw[c6b0]|(simp only[i64_w,i32_w];rw[c6b0])|rw[c6b2]|skip)
 by_cases B:j.length<140737488355328
 ·(
 rw[if_pos B]at H
 have ag:=zM B
 clear B
 obtain⟨y277,hy277⟩:∃i:List Int,i=(j++[32]):=⟨_,rfl⟩
 replace H:(spec_l26Text.j1 k1 l0 y277 a)=some r:=by first|(rw[hy277];with_reducible exact H)|(have c:=(Option.bind_some _ _).symm.trans H;rw[hy277];with_reducible exact c)|(have c:=(Option.bind_some _ _).symm.trans H;with_reducible exact c)|with_reducible exact H|(rw[hy277];exact H)|exact H
 have ah:=zM hy277
 clear hy277
 have H':=zM H
 clear H
 go_wp2_with (first|((with_reducible refine gate_builtin (b:= .append) (xs:= #[.tmp 14,.tmp 15]) rfl ?_);at_builtin;refine Kd.R_append (Kd.int .u8) (w0:=w) w.heap.size rfl (.tmp 14) (.tmp 15) 51 5 (.int .u8 0) 1 rfl Tryd.underlying51 info5 rfl (by decide) (by omega) u3 j 32 [.int .u8 32] (fun _=>True) (fun _=>False) rfl rfl ?aP (fun _ hk=>hk.elim) ?aF ?aO ?aB ?aS ?aL ?_;(case aP=>exact rfl);(case aB=>exact(sH HB.out));(case aF=>exact(fun _ _=>trivial));(case aO=>exact(sE d.out));(case aS=>exact(below_size (sH HB.out)));(case aL=>have:=ag.out;omega);intro aC w8 ho hb hg hat;rw[←ah.out]at ho;replace HB:=zM (hb);have ai:=zM (ho);clear d;clear ho hb hg hat))
 go_meet
 case rel=>exact⟨_,(y277),H',⟨by have:=s.out;first|omega|exact Nat.le_refl _⟩,⟨by exact sE ai.out⟩,⟨sb⟩⟩)
 rw[if_neg B]at H
 exact absurd H (by simp))
 rw[if_neg u]at H
 have c6b0:decide (0<a)=false:=zF u
 clear u
 (first|rw[c6b0]|(simp only[i64_w,i32_w];rw[c6b0])|rw[c6b2]|skip)
 have H':=zM H
 clear H
 go_wp2
 go_meet
 case rel=>exact⟨_,(j),H',⟨by have:=s.out;first|omega|exact Nat.le_refl _⟩,⟨by exact sE d.out⟩,⟨sb⟩⟩)
 case rest=>(
 clear M
 try clear l
 try clear c4b0
 obtain⟨kq,g,HA,D,d,HB⟩:=hcut
 cases kq with
 |zero=>exact absurd HA.out (by simp[spec_l26Text.j1])
 |succ kj4=>(
 have H:=HA.out
 clear HA
 simp only[spec_l26Text.j1]at H
 by_cases E:0≤a
 ·(
 rw[if_pos E]at H
 have c9b0:=zT E
 clear E
 by_cases F:a<(l0.length:Int)
 ·(
 rw[if_pos F]at H
 have c10b0:=zT F
 clear F
 obtain⟨bq11,hbq11⟩:∃b_:Bool,b_=((rd_T64 l0 a).f0):=⟨_,rfl⟩
 replace H:(if bq11=true then((spec_l11Literal.f kj4 ((rd_T64 l0 a).f2)).bind fun m=>(if g.length+m.size<140737488355328 then(spec_l26Text.l0 kj4 l0 (g++bytesOf m) (wrap64 (a+1)))else(none)))else((spec_l06Digits.f kj4 ((rd_T64 l0 a).f1)).bind fun n=>(if g.length+n.size<140737488355328 then(spec_l26Text.l0 kj4 l0 (g++bytesOf n) (wrap64 (a+1)))else(none))))=some r:=by rw[←hbq11]at H;exact H
 have G:=zM hbq11
 clear hbq11
 by_cases I:bq11=true
 ·(
 subst I
 rewrite[if_pos rfl]at H
 obtain⟨m,aj,H⟩:=sO H
 by_cases J:g.length+m.size<140737488355328
 ·(
 rw[if_pos J]at H
 have ak:=zM J
 clear J
 obtain⟨y283,hy283⟩:∃i:List Int,i=(g++bytesOf m):=⟨_,rfl⟩
 replace H:(spec_l26Text.l0 kj4 l0 y283 (wrap64 (a+1)))=some r:=by first|(rw[hy283];with_reducible exact H)|(have c:=(Option.bind_some _ _).symm.trans H;rw[hy283];with_reducible exact c)|(have c:=(Option.bind_some _ _).symm.trans H;with_reducible exact c)|with_reducible exact H|(rw[hy283];exact H)|exact H
 have al:=zM hy283
 clear hy283
 have H':=zM H
 clear H
 have o:0≤(a:Int):=zzA
 have p:a<(l0.length:Int):=zzA
 obtain⟨O,Q,q,x,y⟩:=at_T64 A.out a o p
 (try rw[←G.out]at q)
 cases Q
 replace q:=sX HB q
 replace x:=sX HB x
 replace y:=sX HB y
 replace o:=eq_true o
 replace p:=eq_true p
 have S:0≤(a:Int):=zzA
 have T:a<(l0.length:Int):=zzA
 obtain⟨ad281,am,U,Z,aa⟩:=at_T64 A.out a S T
 (try rw[←G.out]at U)
 obtain rfl:O=ad281:=(by injection am)
 replace U:=sX HB U
 replace Z:=sX HB Z
 replace aa:=sX HB aa
 replace S:=eq_true S
 replace T:=eq_true T
 go_wp2_with (first|((with_reducible refine gate_callee (f:=36) rfl ?_);refine sC (some 28) Tryd.func36 #[.string ((rd_T64 l0 a).f2)] (spec_l11Literal.calls kj4 ((rd_T64 l0 a).f2) m _ aj.out) ?_;rintro e aD ⟨rfl,hb⟩;refine⟨_,rfl,?_⟩;replace d:=zM (Kd.R_below (sE d.out) hb);replace HB:=sB HB hb;(try clear hb))|(at_builtin;refine print_append_str (w0:=w) w.heap.size rfl (.tmp 22) _ 51 9 5 rfl Tryd.underlying51 Tryd.underlying9 info5 u3 g m rfl rfl ?aO ?aB ?aS ?aL ?_;(case aB=>exact(sH HB.out));(case aO=>exact(Kd.own_of_R (sE d.out)));(case aS=>exact(below_size (sH HB.out)));(case aL=>have:=ak.out;omega);intro an ao z hb hg;have ho:=Kd.R_of_own (h1:=fun _=>rfl) (ok:=fun _=>True) z (fun _ _=>trivial);clear z;have hat:=True.intro;rw[←al.out]at ho;change Kd.R (Kd.int .u8) 5 ao w.heap.size (fun _=>True) an y283 at ho;replace HB:=zM (hb);have ap:=zM (ho);clear d;clear ho hb hg hat))
 go_roundg kj4
 case measure=>have:=s.out;have:=D.out;omega
 case rel=>exact⟨(y283),(wrap64 (a+1)),sr,H',⟨by have:=s.out;have:=D.out;omega⟩,⟨by exact sE ap.out⟩,⟨sb⟩⟩)
 rw[if_neg J]at H
 exact absurd H (by simp))
 replace I:=zB I
 subst I
 rewrite[if_neg zQ]at H
 obtain⟨n,aq,H⟩:=sO H
 by_cases K:g.length+n.size<140737488355328
 ·(
 rw[if_pos K]at H
 have ar:=zM K
 clear K
 obtain⟨y288,hy288⟩:∃i:List Int,i=(g++bytesOf n):=⟨_,rfl⟩
 replace H:(spec_l26Text.l0 kj4 l0 y288 (wrap64 (a+1)))=some r:=by first|(rw[hy288];with_reducible exact H)|(have c:=(Option.bind_some _ _).symm.trans H;rw[hy288];with_reducible exact c)|(have c:=(Option.bind_some _ _).symm.trans H;with_reducible exact c)|with_reducible exact H|(rw[hy288];exact H)|exact H
 have au:=zM hy288
 clear hy288
 have H':=zM H
 clear H
 have o:0≤(a:Int):=zzA
 have p:a<(l0.length:Int):=zzA
 obtain⟨O,Q,q,x,y⟩:=at_T64 A.out a o p
 (try rw[←G.out]at q)
 cases Q
 replace q:=sX HB q
 replace x:=sX HB x
 replace y:=sX HB y
 replace o:=eq_true o
 replace p:=eq_true p
 have V:0≤(a:Int):=zzA
 have W:a<(l0.length:Int):=zzA
 obtain⟨ad286,av,X,ab,ac⟩:=at_T64 A.out a V W
 (try rw[←G.out]at X)
 obtain rfl:O=ad286:=(by injection av)
 replace X:=sX HB X
 replace ab:=sX HB ab
 replace ac:=sX HB ac
 replace V:=eq_true V
 replace W:=eq_true W
 go_wp2_with (first|((with_reducible refine gate_callee (f:=52) rfl ?_);refine sC (some 36) Tryd.func52 #[.int .i64 ((rd_T64 l0 a).f1)] (spec_l06Digits.calls kj4 ((rd_T64 l0 a).f1) n _ aq.out) ?_;rintro e aE ⟨rfl,hb⟩;refine⟨_,rfl,?_⟩;replace d:=zM (Kd.R_below (sE d.out) hb);replace HB:=sB HB hb;(try clear hb))|(at_builtin;refine print_append_str (w0:=w) w.heap.size rfl (.tmp 30) _ 51 9 5 rfl Tryd.underlying51 Tryd.underlying9 info5 u3 g n rfl rfl ?aO ?aB ?aS ?aL ?_;(case aB=>exact(sH HB.out));(case aO=>exact(Kd.own_of_R (sE d.out)));(case aS=>exact(below_size (sH HB.out)));(case aL=>have:=ar.out;omega);intro aw ax z hb hg;have ho:=Kd.R_of_own (h1:=fun _=>rfl) (ok:=fun _=>True) z (fun _ _=>trivial);clear z;have hat:=True.intro;rw[←au.out]at ho;change Kd.R (Kd.int .u8) 5 ax w.heap.size (fun _=>True) aw y288 at ho;replace HB:=zM (hb);have ay:=zM (ho);clear d;clear ho hb hg hat))
 go_roundg kj4
 case measure=>have:=s.out;have:=D.out;omega
 case rel=>exact⟨(y288),(wrap64 (a+1)),sr,H',⟨by have:=s.out;have:=D.out;omega⟩,⟨by exact sE ay.out⟩,⟨sb⟩⟩)
 rw[if_neg K]at H
 exact absurd H (by simp))
 rw[if_neg F]at H
 exact absurd H (by simp))
 rw[if_neg E]at H
 exact absurd H (by simp))))
 rw[if_neg l]at H
 have c4b0:=zF l
 clear l
 obtain rfl:=zI H
 have aG:=own_string (P:=Tryd.prog) Tryd.underlying51 Tryd.underlying5 Tryd.underlying9 (Kd.own_of_R d.out)
 go_wp2
 go_ret
 exact⟨sq,sb⟩))
def spec_FieldsText.l0 : Nat → List (S64) → Int → Option (ByteArray)
 |0,_,_=>none
 |k+1,x0,x3=>if x3<(x0.length:Int)then(if 0≤x3 then((spec_l26Valid.f ((rd_T64 x0 x3).f0) ((rd_T64 x0 x3).f1) ((rd_T64 x0 x3).f2)).bind fun t292=>(if t292=true then(spec_FieldsText.l0 k x0 (wrap64 (x3+1)))else(some (⟨#[]⟩:ByteArray))))else(none))else((spec_l26Text.f k x0).bind fun t293=>(some t293))
def spec_FieldsText.f (k:Nat) (l0:List (S64)):Option (ByteArray):=if(l0.length:Int)>20000 then(some (⟨#[]⟩:ByteArray))else(spec_FieldsText.l0 k l0 0)
set_option maxHeartbeats 8000000 in
set_option maxRecDepth 100000 in
theorem spec_FieldsText.calls (k:Nat) (A0:Option Addr) (c0:Nat) (l0:List (S64)) (r:ByteArray) (w:World) (hr0:Kd.C k64 w A0 l0.length l0) (hc0:l0.length≤c0) (h:spec_FieldsText.f k l0=some r):
  Calls Tryd.prog 14 #[.slice A0 l0.length c0] w fun e w'=>e= .returned (.string r)∧Below w.heap.size w w':=by
 have D:=Tryd.underlying64
 have p:=zM hr0
 have v:=zM hc0
 clear hr0 hc0
 have HB:=zM (Below.refl w.heap.size w)
 have H:(if(l0.length:Int)>20000 then(some (⟨#[]⟩:ByteArray))else(spec_FieldsText.l0 k l0 0))=some r:=h
 clear h
 by_cases c:(l0.length:Int)>20000
 ·(
 rw[if_pos c]at H
 have c2b0:decide (20000<(l0.length:Int))=true:=zT c
 have c2b1:decide (20000<l0.length)=true:=zT (by omega)
 clear c
 obtain rfl:=zI H
 go_enter Tryd.func14,Tryd.ntmps14
 go_wp2
 go_ret
 exact⟨sq,sb⟩)
 rw[if_neg c]at H
 have c2b0:decide (20000<(l0.length:Int))=false:=zF c
 have c2b1:decide (20000<l0.length)=false:=zF (by omega)
 clear c
 have H':=zM H
 clear H
 go_enter Tryd.func14,Tryd.ntmps14
 go_wp2
 go_loopg [3] k (fun kq x w'=>∃(a:Int),x= .int .i64 a∧Aside0 (spec_FieldsText.l0 kq l0 a=some r)∧Aside0 (kq≤k)∧Aside0 (Below w.heap.size w w'))
 case atStart=>exact⟨(0),sr,H',⟨Nat.le_refl _⟩,⟨sb⟩⟩
 case round=>(
 clear H'
 try clear c
 try clear c2b0
 try clear c2b1
 obtain⟨a,rfl,HA,s,HB⟩:=hrel
 cases gk with
 |zero=>exact absurd HA.out (by simp[spec_FieldsText.l0])
 |succ k1=>(
 have H:=HA.out
 clear HA
 simp only[spec_FieldsText.l0]at H
 by_cases i:a<(l0.length:Int)
 ·(
 rw[if_pos i]at H
 have c3b0:=zT i
 clear i
 by_cases n:0≤a
 ·(
 rw[if_pos n]at H
 have c4b0:=zT n
 clear n
 obtain⟨y,u,H⟩:=sO H
 by_cases o:y=true
 ·(
 subst o
 rewrite[if_pos rfl]at H
 have H':=zM H
 clear H
 have d:0≤(a:Int):=zzA
 have g:a<(l0.length:Int):=zzA
 obtain⟨z,q,j,l,m⟩:=at_T64 p.out a d g
 cases q
 replace j:=sX HB j
 replace l:=sX HB l
 replace m:=sX HB m
 replace d:=eq_true d
 replace g:=eq_true g
 go_wp2_with (first|((with_reducible refine gate_callee (f:=40) rfl ?_);refine sC (some 17) Tryd.func40 #[.agg #[.bool ((rd_T64 l0 a).f0),.int .i64 ((rd_T64 l0 a).f1),.string ((rd_T64 l0 a).f2)]] (spec_l26Valid.calls ((rd_T64 l0 a).f0) ((rd_T64 l0 a).f1) ((rd_T64 l0 a).f2) true _ u.out) ?_;rintro e E ⟨rfl,hb⟩;refine⟨_,rfl,?_⟩;replace HB:=sB HB hb;(try clear hb)))
 go_roundg k1
 case measure=>have:=s.out;omega
 case rel=>exact⟨(wrap64 (a+1)),sr,H',⟨by have:=s.out;omega⟩,⟨sb⟩⟩)
 replace o:=zB o
 subst o
 rewrite[if_neg zQ]at H
 obtain rfl:=zI H
 have d:0≤(a:Int):=zzA
 have g:a<(l0.length:Int):=zzA
 obtain⟨z,q,j,l,m⟩:=at_T64 p.out a d g
 cases q
 replace j:=sX HB j
 replace l:=sX HB l
 replace m:=sX HB m
 replace d:=eq_true d
 replace g:=eq_true g
 go_wp2_with (first|((with_reducible refine gate_callee (f:=40) rfl ?_);refine sC (some 17) Tryd.func40 #[.agg #[.bool ((rd_T64 l0 a).f0),.int .i64 ((rd_T64 l0 a).f1),.string ((rd_T64 l0 a).f2)]] (spec_l26Valid.calls ((rd_T64 l0 a).f0) ((rd_T64 l0 a).f1) ((rd_T64 l0 a).f2) false _ u.out) ?_;rintro e F ⟨rfl,hb⟩;refine⟨_,rfl,?_⟩;replace HB:=sB HB hb;(try clear hb)))
 go_ret
 exact⟨sq,sb⟩)
 rw[if_neg n]at H
 exact absurd H (by simp))
 rw[if_neg i]at H
 have c3b0:=zF i
 clear i
 obtain⟨A,B,H⟩:=sO H
 obtain rfl:=zI H
 go_wp2_with (first|((with_reducible refine gate_callee (f:=41) rfl ?_);refine sC (some 20) Tryd.func41 #[.slice A0 l0.length c0] (spec_l26Text.calls k1 _ _ l0 A _ ?side1 ?side2 B.out) ?_;(case side1=>exact sD (zC p.out HB.out));(case side2=>exact v.out);rintro e G ⟨rfl,hb⟩;refine⟨_,rfl,?_⟩;replace HB:=sB HB hb;(try clear hb)))
 go_ret
 exact⟨sq,sb⟩))
end Go.Proofs.YtjmojijopammjaaDoor.PFnExactCaptureText
