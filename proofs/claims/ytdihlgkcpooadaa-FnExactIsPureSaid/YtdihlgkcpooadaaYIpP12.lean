/- Printed functions: spec_l15Clean. -/
import Derived.Test.YtdihlgkcpooadaaYIpP0
namespace Go.Proofs.Ytdihlgkcpooadaa.PFnExactIsPure
open Go.RowKit Go.Proofs.YtdihlgkcpooadaaG Go.Proofs.YtdihlgkcpooadaaW.PrintWords Go.Proofs.YtdihlgkcpooadaaW.PrintLast Go.Proofs.YtdihlgkcpooadaaW.PrintMore
attribute [local go_sem] max2_int min2_int max_two min_two max_three min_three max_four min_four
set_option linter.unusedVariables false
set_option linter.unusedSimpArgs false
mutual
def spec_l15Clean.l0 : Nat → Int → Int → Int → ByteArray → List (S36) → Option (Bool)
 |0,_,_,_,_,_=>none
 |k+1,x3,x233000,x233001,x233002,x233003=>if x3<(x233003.length:Int)then(if 0≤x3 then((spec_l15Clean.f k ((rd_T36 x233003 x3).f0) ((rd_T36 x233003 x3).f1) ((rd_T36 x233003 x3).f2) ((rd_T36 x233003 x3).f3)).bind fun t234=>(if t234=true then(spec_l15Clean.l0 k (wrap64 (x3+1)) x233000 x233001 x233002 x233003)else(some false)))else(none))else(some true)
def spec_l15Clean.f : Nat → Int → Int → ByteArray → List (S36) → Option (Bool)
 |0,_,_,_,_=>none
 |k+1,a0_0,a0_1,a0_2,l0_3=>if a0_0=14 then(some false)else(if a0_0=15 then(some false)else(if a0_0=17 then(some false)else(if a0_0=22 then(some false)else(if a0_0=23 then(some false)else(spec_l15Clean.l0 k 0 a0_0 a0_1 a0_2 l0_3)))))
end
set_option maxHeartbeats 8000000 in
set_option maxRecDepth 100000 in
theorem spec_l15Clean.calls (k:Nat):∀(a0_0:Int) (a0_1:Int) (a0_2:ByteArray) (A0_3:Option Addr) (c0_3:Nat) (l0_3:List (S36)) (r:Bool) (w:World) (hr0_3:Kd.C k36 w A0_3 l0_3.length l0_3) (hc0_3:l0_3.length≤c0_3) (h:spec_l15Clean.f k a0_0 a0_1 a0_2 l0_3=some r),
  Calls Try.prog 34 #[.agg #[.int .i64 a0_0,.int .i64 a0_1,.string a0_2,.slice A0_3 l0_3.length c0_3]] w fun e w'=>e= .returned (.bool r)∧Below w.heap.size w w':=by
 induction k using Nat.strongRecOn with
 |_ k ih=>
 intro a0_0 a0_1 a0_2 A0_3 c0_3 l0_3 r w hr0_3 hc0_3 h
 cases k with
 |zero=>exact absurd h (by simp[spec_l15Clean.f])
 |succ k=>
 simp only[spec_l15Clean.f]at h
 have Y:=Try.underlying36
 have K:=zM hr0_3
 have Z:=zM hc0_3
 clear hr0_3 hc0_3
 have HB:=zM (Below.refl w.heap.size w)
 have H:(if a0_0=14 then(some false)else(if a0_0=15 then(some false)else(if a0_0=17 then(some false)else(if a0_0=22 then(some false)else(if a0_0=23 then(some false)else(spec_l15Clean.l0 k 0 a0_0 a0_1 a0_2 l0_3))))))=some r:=h
 clear h
 by_cases c:a0_0=14
 ·(
 rw[if_pos c]at H
 have c2b0:(a0_0==14)=true:=zE c
 have c2b1:(a0_0 !=14)=false:=zY c
 clear c
 obtain rfl:=zI H
 go_enter Try.func34,Try.ntmps34
 go_wp2_with (first|((with_reducible refine gate_dst (N:=1) rfl ?_);refine sV (N:=1) (cs:= #[.int .i64 a0_0,.int .i64 a0_1,.string a0_2,.slice A0_3 l0_3.length c0_3]) (t:=36) ?_;intro n hg w3 hbox hb;have b:=zM (hbox);have p:=sG HB hg;have q:=sG HB hg;replace HB:=sB HB hb;clear hb hbox hg;obtain⟨aa,ab,ac,ad,ae,af,ag,ah⟩:=cells4 b.out))
 go_ret
 exact⟨sq,sb⟩)
 rw[if_neg c]at H
 have c2b0:(a0_0==14)=false:=zN c
 have c2b1:(a0_0 !=14)=true:=zX c
 by_cases d:a0_0=15
 ·(
 rw[if_pos d]at H
 have c5b0:(a0_0==15)=true:=zE d
 have c5b1:(a0_0 !=15)=false:=zY d
 clear d
 obtain rfl:=zI H
 go_enter Try.func34,Try.ntmps34
 go_wp2_with (first|((with_reducible refine gate_dst (N:=1) rfl ?_);refine sV (N:=1) (cs:= #[.int .i64 a0_0,.int .i64 a0_1,.string a0_2,.slice A0_3 l0_3.length c0_3]) (t:=36) ?_;intro n hg w6 hbox hb;have b:=zM (hbox);have p:=sG HB hg;have q:=sG HB hg;replace HB:=sB HB hb;clear hb hbox hg;obtain⟨ai,aj,ak,al,am,an,ao,ap⟩:=cells4 b.out))
 go_ret
 exact⟨sq,sb⟩)
 rw[if_neg d]at H
 have c5b0:(a0_0==15)=false:=zN d
 have c5b1:(a0_0 !=15)=true:=zX d
 by_cases g:a0_0=17
 ·(
 rw[if_pos g]at H
 have c8b0:(a0_0==17)=true:=zE g
 have c8b1:(a0_0 !=17)=false:=zY g
 clear g
 obtain rfl:=zI H
 go_enter Try.func34,Try.ntmps34
 go_wp2_with (first|((with_reducible refine gate_dst (N:=1) rfl ?_);refine sV (N:=1) (cs:= #[.int .i64 a0_0,.int .i64 a0_1,.string a0_2,.slice A0_3 l0_3.length c0_3]) (t:=36) ?_;intro n hg w9 hbox hb;have b:=zM (hbox);have p:=sG HB hg;have q:=sG HB hg;replace HB:=sB HB hb;clear hb hbox hg;obtain⟨aq,ar,au,av,aw,ax,ay,az⟩:=cells4 b.out))
 go_ret
 exact⟨sq,sb⟩)
 rw[if_neg g]at H
 have c8b0:(a0_0==17)=false:=zN g
 have c8b1:(a0_0 !=17)=true:=zX g
 by_cases i:a0_0=22
 ·(
 rw[if_pos i]at H
 have c11b0:(a0_0==22)=true:=zE i
 have c11b1:(a0_0 !=22)=false:=zY i
 clear i
 obtain rfl:=zI H
 go_enter Try.func34,Try.ntmps34
 go_wp2_with (first|((with_reducible refine gate_dst (N:=1) rfl ?_);refine sV (N:=1) (cs:= #[.int .i64 a0_0,.int .i64 a0_1,.string a0_2,.slice A0_3 l0_3.length c0_3]) (t:=36) ?_;intro n hg aA hbox hb;have b:=zM (hbox);have p:=sG HB hg;have q:=sG HB hg;replace HB:=sB HB hb;clear hb hbox hg;obtain⟨aB,aC,aD,aE,aF,aG,aH,aI⟩:=cells4 b.out))
 go_ret
 exact⟨sq,sb⟩)
 rw[if_neg i]at H
 have c11b0:(a0_0==22)=false:=zN i
 have c11b1:(a0_0 !=22)=true:=zX i
 by_cases j:a0_0=23
 ·(
 rw[if_pos j]at H
 have c14b0:(a0_0==23)=true:=zE j
 have c14b1:(a0_0 !=23)=false:=zY j
 clear j
 obtain rfl:=zI H
 go_enter Try.func34,Try.ntmps34
 go_wp2_with (first|((with_reducible refine gate_dst (N:=1) rfl ?_);refine sV (N:=1) (cs:= #[.int .i64 a0_0,.int .i64 a0_1,.string a0_2,.slice A0_3 l0_3.length c0_3]) (t:=36) ?_;intro n hg aJ hbox hb;have b:=zM (hbox);have p:=sG HB hg;have q:=sG HB hg;replace HB:=sB HB hb;clear hb hbox hg;obtain⟨aK,aL,aM,aN,aO,aP,aQ,aR⟩:=cells4 b.out))
 go_ret
 exact⟨sq,sb⟩)
 rw[if_neg j]at H
 have c14b0:(a0_0==23)=false:=zN j
 have c14b1:(a0_0 !=23)=true:=zX j
 have H':=zM H
 clear H
 go_enter Try.func34,Try.ntmps34
 go_wp2_with (first|((with_reducible refine gate_dst (N:=1) rfl ?_);refine sV (N:=1) (cs:= #[.int .i64 a0_0,.int .i64 a0_1,.string a0_2,.slice A0_3 l0_3.length c0_3]) (t:=36) ?_;intro n hg aS hbox hb;have b:=zM (hbox);have p:=sG HB hg;have q:=sG HB hg;replace HB:=sB HB hb;clear hb hbox hg;obtain⟨M,O,P,Q,R,S,T,U⟩:=cells4 b.out))
 go_loopg [3] k (fun kq V w'=>∃(a:Int),V= .int .i64 a∧Aside0 (spec_l15Clean.l0 kq a a0_0 a0_1 a0_2 l0_3=some r)∧Aside0 (kq≤k)∧Aside0 (w'.heap[n]?=some (.cells #[.int .i64 a0_0,.int .i64 a0_1,.string a0_2,(.slice A0_3 l0_3.length c0_3)] 36 (0,0)))∧Aside0 (Below w.heap.size w w'))
 case atStart=>exact⟨(0),sr,H',⟨Nat.le_refl _⟩,⟨by exact sT b.out⟩,⟨sb⟩⟩
 case round=>(
 clear H'
 try clear c
 try clear c2b0
 try clear c2b1
 try clear d
 try clear c5b0
 try clear c5b1
 try clear g
 try clear c8b0
 try clear c8b1
 try clear i
 try clear c11b0
 try clear c11b1
 try clear j
 try clear c14b0
 try clear c14b1
 try clear M
 try clear O
 try clear P
 try clear Q
 try clear R
 try clear S
 try clear T
 try clear U
 obtain⟨a,rfl,HA,A,b,HB⟩:=hrel
 cases gk with
 |zero=>exact absurd HA.out (by simp[spec_l15Clean.l0])
 |succ k1=>(
 have H:=HA.out
 clear HA
 simp only[spec_l15Clean.l0]at H
 by_cases o:a<(l0_3.length:Int)
 ·(
 rw[if_pos o]at H
 have c19b0:=zT o
 clear o
 by_cases B:0≤a
 ·(
 rw[if_pos B]at H
 have c20b0:=zT B
 clear B
 obtain⟨W,L,H⟩:=sO H
 by_cases D:W=true
 ·(
 subst D
 rewrite[if_pos rfl]at H
 have H':=zM H
 clear H
 obtain⟨aT,aU,aV,aW,aX,aY,aZ,a0⟩:=cells4 b.out
 have l:0≤(a:Int):=zzA
 have m:a<(l0_3.length:Int):=zzA
 obtain⟨X,E,F,G,s,u,v,x,y,z⟩:=at_T36 K.out a l m
 cases G
 replace s:=sX HB s
 replace u:=sX HB u
 replace v:=sX HB v
 replace x:=sX HB x
 have I:=zM z
 have J:=zM y
 clear z y
 replace l:=eq_true l
 replace m:=eq_true m
 go_wp2_with (first|((with_reducible refine gate_callee (f:=34) rfl ?_);refine goesL_ (some 24) rfl rfl Try.func34 (by kernel_rfl) rfl #[.agg #[.int .i64 ((rd_T36 l0_3 a).f0),.int .i64 ((rd_T36 l0_3 a).f1),.string ((rd_T36 l0_3 a).f2),.slice E ((rd_T36 l0_3 a).f3).length F]] rfl (by(try simp only[List.map_toArray,List.map_cons,List.map_nil]);first|done|rfl|(simp only[List.length_drop,List.length_take];rfl)) ?_;(with_reducible refine(ih k1 (by have:=A.out;omega) ((rd_T36 l0_3 a).f0) ((rd_T36 l0_3 a).f1) ((rd_T36 l0_3 a).f2) _ _ ((rd_T36 l0_3 a).f3) true _ ?side1 ?side2 L.out).mono ?_);(case side1=>exact sD (zC I.out HB.out));(case side2=>exact J.out);rintro e a1 ⟨rfl,hb⟩;refine⟨_,rfl,?_⟩;replace b:=sK b hb;replace HB:=sB HB hb;(try clear hb)))
 go_roundg k1
 case measure=>have:=A.out;omega
 case rel=>exact⟨(wrap64 (a+1)),sr,H',⟨by have:=A.out;omega⟩,⟨by exact sT b.out⟩,⟨sb⟩⟩)
 replace D:=zB D
 subst D
 rewrite[if_neg zQ]at H
 obtain rfl:=zI H
 obtain⟨a2,a3,a4,a5,a6,a7,a8,a9⟩:=cells4 b.out
 have l:0≤(a:Int):=zzA
 have m:a<(l0_3.length:Int):=zzA
 obtain⟨X,E,F,G,s,u,v,x,y,z⟩:=at_T36 K.out a l m
 cases G
 replace s:=sX HB s
 replace u:=sX HB u
 replace v:=sX HB v
 replace x:=sX HB x
 have I:=zM z
 have J:=zM y
 clear z y
 replace l:=eq_true l
 replace m:=eq_true m
 go_wp2_with (first|((with_reducible refine gate_callee (f:=34) rfl ?_);refine goesL_ (some 24) rfl rfl Try.func34 (by kernel_rfl) rfl #[.agg #[.int .i64 ((rd_T36 l0_3 a).f0),.int .i64 ((rd_T36 l0_3 a).f1),.string ((rd_T36 l0_3 a).f2),.slice E ((rd_T36 l0_3 a).f3).length F]] rfl (by(try simp only[List.map_toArray,List.map_cons,List.map_nil]);first|done|rfl|(simp only[List.length_drop,List.length_take];rfl)) ?_;(with_reducible refine(ih k1 (by have:=A.out;omega) ((rd_T36 l0_3 a).f0) ((rd_T36 l0_3 a).f1) ((rd_T36 l0_3 a).f2) _ _ ((rd_T36 l0_3 a).f3) false _ ?side1 ?side2 L.out).mono ?_);(case side1=>exact sD (zC I.out HB.out));(case side2=>exact J.out);rintro e ba ⟨rfl,hb⟩;refine⟨_,rfl,?_⟩;replace b:=sK b hb;replace HB:=sB HB hb;(try clear hb)))
 go_ret
 exact⟨sq,sb⟩)
 rw[if_neg B]at H
 exact absurd H (by simp))
 rw[if_neg o]at H
 have c19b0:=zF o
 clear o
 obtain rfl:=zI H
 obtain⟨bb,bc,bd,be,bf,bg,bh,bi⟩:=cells4 b.out
 go_wp2
 go_ret
 exact⟨sq,sb⟩))
end Go.Proofs.Ytdihlgkcpooadaa.PFnExactIsPure
