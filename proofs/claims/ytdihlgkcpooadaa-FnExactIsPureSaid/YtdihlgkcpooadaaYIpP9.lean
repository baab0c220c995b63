/- Printed functions: spec_l12Find, spec_l15Defined. -/
import Derived.Test.YtdihlgkcpooadaaYIpP0
import Derived.Test.YtdihlgkcpooadaaYIpP8
namespace Go.Proofs.Ytdihlgkcpooadaa.PFnExactIsPure
open Go.RowKit Go.Proofs.YtdihlgkcpooadaaG Go.Proofs.YtdihlgkcpooadaaW.PrintWords Go.Proofs.YtdihlgkcpooadaaW.PrintLast Go.Proofs.YtdihlgkcpooadaaW.PrintMore
attribute [local go_sem] max2_int min2_int max_two min_two max_three min_three max_four min_four
set_option linter.unusedVariables false
set_option linter.unusedSimpArgs false
def spec_l12Find.l0 : Nat → List (S52) → ByteArray → Int → Option (Int)
 |0,_,_,_=>none
 |k+1,x0,x1,x5=>if x5<(x0.length:Int)then(if 0≤x5 then(if((rd_T52 x0 x5).f0).toList=x1.toList then(some x5)else(spec_l12Find.l0 k x0 x1 (wrap64 (x5+1))))else(none))else(some (-1))
def spec_l12Find.f (k:Nat) (l0:List (S52)) (a1:ByteArray):Option (Int):=spec_l12Find.l0 k l0 a1 0
set_option maxHeartbeats 8000000 in
set_option maxRecDepth 100000 in
theorem spec_l12Find.calls (k:Nat) (A0:Option Addr) (c0:Nat) (l0:List (S52)) (a1:ByteArray) (r:Int) (w:World) (hr0:Kd.C k52 w A0 l0.length l0) (hc0:l0.length≤c0) (h:spec_l12Find.f k l0 a1=some r):
  Calls Try.prog 64 #[.slice A0 l0.length c0,.string a1] w fun e w'=>e= .returned (.int .i64 r)∧Drawn0 w w':=by
 have n:=zM hr0
 have E:=zM hc0
 clear hr0 hc0
 have H:(spec_l12Find.l0 k l0 a1 0)=some r:=h
 clear h
 have H':=zM H
 clear H
 go_enter Try.func64,Try.ntmps64
 go_wp2
 go_loopg [5] k (fun kq p w'=>∃(a:Int),p= .int .i64 a∧Aside0 (spec_l12Find.l0 kq l0 a1 a=some r)∧Aside0 (kq≤k)∧Drawn0 w w')
 case atStart=>exact⟨(0),sr,H',⟨Nat.le_refl _⟩,by repeat(first|exact Drawn0.refl _|apply Drawn0.step)⟩
 case round=>(
 clear H'
 obtain⟨a,rfl,HA,o,⟨F,rfl⟩⟩:=hrel
 cases gk with
 |zero=>exact absurd HA.out (by simp[spec_l12Find.l0])
 |succ k1=>(
 have H:=HA.out
 clear HA
 simp only[spec_l12Find.l0]at H
 by_cases g:a<(l0.length:Int)
 ·(
 rw[if_pos g]at H
 have c3b0:=zT g
 clear g
 by_cases l:0≤a
 ·(
 rw[if_pos l]at H
 have c4b0:=zT l
 clear l
 by_cases b:((rd_T52 l0 a).f0).toList=a1.toList
 ·(
 rw[if_pos b]at H
 have c5b0:(((rd_T52 l0 a).f0).toList==a1.toList)=true:=zE b
 have c5b1:(((rd_T52 l0 a).f0).toList !=a1.toList)=false:=zY b
 clear b
 obtain rfl:=zI H
 have c:0≤(a:Int):=zzA
 have d:a<(l0.length:Int):=zzA
 obtain⟨q,s,u,m,v,x,y,z,A,i,j⟩:=at_T52 n.out a c d
 cases m
 have B:=zM j
 have D:=zM i
 clear j i
 replace c:=eq_true c
 replace d:=eq_true d
 go_wp2
 go_ret
 exact⟨by first|rfl|(simp;done)|(simp[*];done),by repeat(first|exact Drawn0.refl _|apply Drawn0.step)⟩)
 rw[if_neg b]at H
 have c5b0:(((rd_T52 l0 a).f0).toList==a1.toList)=false:=zN b
 have c5b1:(((rd_T52 l0 a).f0).toList !=a1.toList)=true:=zX b
 have H':=zM H
 clear H
 have c:0≤(a:Int):=zzA
 have d:a<(l0.length:Int):=zzA
 obtain⟨q,s,u,m,v,x,y,z,A,i,j⟩:=at_T52 n.out a c d
 cases m
 have B:=zM j
 have D:=zM i
 clear j i
 replace c:=eq_true c
 replace d:=eq_true d
 go_wp2
 go_roundg k1
 case measure=>have:=o.out;omega
 case rel=>exact⟨(wrap64 (a+1)),sr,H',⟨by have:=o.out;omega⟩,by repeat(first|exact Drawn0.refl _|apply Drawn0.step)⟩)
 rw[if_neg l]at H
 exact absurd H (by simp))
 rw[if_neg g]at H
 have c3b0:=zF g
 clear g
 obtain rfl:=zI H
 go_wp2
 go_ret
 exact⟨by first|rfl|(simp;done)|(simp[*];done),by repeat(first|exact Drawn0.refl _|apply Drawn0.step)⟩))
def spec_l15Defined.l0 : Nat → List (S52) → List ByteArray → Int → Option (Bool)
 |0,_,_,_=>none
 |k+1,x0,x5,x6=>if x6<(x5.length:Int)then(if 0≤x6 then((spec_l12Find.f k x0 (rdOf ByteArray.empty x5 x6)).bind fun t222=>(if t222<0 then(some false)else(spec_l15Defined.l0 k x0 x5 (wrap64 (x6+1)))))else(none))else(some true)
def spec_l15Defined.f (k:Nat) (l0:List (S52)) (a1_0:Int) (a1_1:Int) (a1_2:ByteArray) (l1_3:List (S36)):Option (Bool):=(spec_l11Names.f k a1_0 a1_1 a1_2 l1_3 (([]:List ByteArray))).bind fun t218=>(spec_l15Defined.l0 k l0 t218 0)
set_option maxHeartbeats 8000000 in
set_option maxRecDepth 100000 in
theorem spec_l15Defined.calls (k:Nat) (A0:Option Addr) (c0:Nat) (l0:List (S52)) (a1_0:Int) (a1_1:Int) (a1_2:ByteArray) (A1_3:Option Addr) (c1_3:Nat) (l1_3:List (S36)) (r:Bool) (w:World) (hr0:Kd.C k52 w A0 l0.length l0) (hc0:l0.length≤c0) (hr1_3:Kd.C k36 w A1_3 l1_3.length l1_3) (hc1_3:l1_3.length≤c1_3) (h:spec_l15Defined.f k l0 a1_0 a1_1 a1_2 l1_3=some r):
  Calls Try.prog 57 #[.slice A0 l0.length c0,.agg #[.int .i64 a1_0,.int .i64 a1_1,.string a1_2,.slice A1_3 l1_3.length c1_3]] w fun e w'=>e= .returned (.bool r)∧Below w.heap.size w w':=by
 have ai:=Try.underlying36
 have B:=zM hr0
 have D:=zM hc0
 clear hr0 hc0
 have J:=zM hr1_3
 have K:=zM hc1_3
 clear hr1_3 hc1_3
 have HB:=zM (Below.refl w.heap.size w)
 have H:((spec_l11Names.f k a1_0 a1_1 a1_2 l1_3 (([]:List ByteArray))).bind fun b=>(spec_l15Defined.l0 k l0 b 0))=some r:=h
 clear h
 obtain⟨y215,hy215⟩:∃L:List ByteArray,L=(([]:List ByteArray)):=⟨_,rfl⟩
 replace H:((spec_l11Names.f k a1_0 a1_1 a1_2 l1_3 y215).bind fun b=>(spec_l15Defined.l0 k l0 b 0))=some r:=by first|(rw[hy215];with_reducible exact H)|(have q:=(Option.bind_some _ _).symm.trans H;rw[hy215];with_reducible exact q)|(have q:=(Option.bind_some _ _).symm.trans H;with_reducible exact q)|with_reducible exact H|(rw[hy215];exact H)|exact H
 have E:=zM hy215
 clear hy215
 obtain⟨b,M,H⟩:=sO H
 have H':=zM H
 clear H
 go_enter Try.func57,Try.ntmps57
 go_wp2_with (first|((with_reducible refine gate_dst (N:=3) rfl ?_);refine sV (N:=3) (cs:= #[.int .i64 a1_0,.int .i64 a1_1,.string a1_2,.slice A1_3 l1_3.length c1_3]) (t:=36) ?_;intro O hg w4 hbox hb;have c:=zM (hbox);have aj:=sG HB hg;have s:=sG HB hg;replace HB:=sB HB hb;clear hb hbox hg;obtain⟨P,Q,S,T,U,V,W,X⟩:=cells4 c.out)|((with_reducible refine gate_dst (N:=8) rfl ?_);refine Kd.R_lit Kd.string _ 9 ?hg (N:=8) ?hd (xs:=([]:List ByteArray)) (inner:=[]) (ok:=fun _=>True) (okp:=fun _=>True) ?hr ?hp (fun _ hk=>hk) trivial (Below.refl _ _) (Nat.le_refl _) (by simp) ?_;(case hd=>rfl);(case hg=>rfl);(case hr=>first|(go_simp;done)|(go_simp;rfl));(case hp=>exact(Reps.none _ _));intro ak w6 m hb Y Z;clear Y Z;(first|rw[←E.out]at m|(simp only[Int.reduceToNat]at m;rw[←E.out]at m));have n:=zM (Kd.R_lower m (below_size zzR));replace c:=sK c hb;replace HB:=sB HB hb;clear hb m;obtain⟨u,v,aa⟩:=Kd.R_slice n.out;subst aa)|((with_reducible refine gate_callee (f:=81) rfl ?_);refine sC (some 9) Try.func81 #[.agg #[.int .i64 a1_0,.int .i64 a1_1,.string a1_2,.slice A1_3 l1_3.length c1_3],.slice u y215.length v] (spec_l11Names.calls k a1_0 a1_1 a1_2 _ _ l1_3 (fun o=>some o=(.slice u y215.length v:Value).ownBlock) (.slice u y215.length v) y215 b w _ ?side1 ?side2 ?side3 ?side4 M.out) ?_;(case side1=>repeat(first|(with_reducible first|exact HB.out|apply below_alloc|apply pw_below_drewN|apply below_drew1|refine below_set ?_ s.out)|exact HB.out));(case side2=>exact Kd.C_kept_came k36_heap J.out zzR (fun o x=>(fun y=>Kd.R_base n.out o y.symm) x));(case side3=>exact K.out);(case side4=>exact Kd.R_tight rfl n.out);rintro e w9 ⟨ab,rfl,F,hb,hkp⟩;refine⟨_,rfl,?_⟩;replace c:=zM (blk_kept (sT c.out) hkp (fun x=>(fun y=>(Kd.R_ne n.out c.out (by decide)) y) x));have ac:=zM (Kd.R_mono (ok':=fun o=>True) F (fun o al=>trivial));replace HB:=zM (hb);clear n;(try clear hb);(try clear hkp);(try clear F)))
 go_loopg [6] k (fun kq v6 w'=>∃(a:Int),v6= .int .i64 a∧Aside0 (spec_l15Defined.l0 kq l0 b a=some r)∧Aside0 (kq≤k)∧Aside0 (Kd.R Kd.string 9 w' w.heap.size (fun _=>True) ab b)∧Aside0 (w'.heap[O]?=some (.cells #[.int .i64 a1_0,.int .i64 a1_1,.string a1_2,(.slice A1_3 l1_3.length c1_3)] 36 (0,0)))∧Aside0 (Below w.heap.size w w'))
 case atStart=>exact⟨(0),sr,H',⟨Nat.le_refl _⟩,⟨by exact sE ac.out⟩,⟨by exact sT c.out⟩,⟨sb⟩⟩
 case round=>(
 clear H'
 try clear P
 try clear Q
 try clear S
 try clear T
 try clear U
 try clear V
 try clear W
 try clear X
 obtain⟨a,rfl,HA,G,i,c,HB⟩:=hrel
 cases gk with
 |zero=>exact absurd HA.out (by simp[spec_l15Defined.l0])
 |succ k1=>(
 have H:=HA.out
 clear HA
 simp only[spec_l15Defined.l0]at H
 by_cases j:a<(b.length:Int)
 ·(
 rw[if_pos j]at H
 have c10b0:=zT j
 clear j
 by_cases p:0≤a
 ·(
 rw[if_pos p]at H
 have c11b0:=zT p
 clear p
 obtain⟨z,I,H⟩:=sO H
 by_cases l:z<0
 ·(
 rw[if_pos l]at H
 have c13b0:=zT l
 clear l
 obtain rfl:=zI H
 obtain⟨am,an,ad⟩:=Kd.R_slice i.out
 subst ad
 have d:0≤(a:Int):=zzA
 have g:a<(b.length:Int):=zzA
 obtain⟨ae,A,af⟩:=Kd.at_string (Kd.R_reads' i.out).2.2 a d g
 cases A
 replace d:=eq_true d
 replace g:=eq_true g
 go_wp2_with (first|((with_reducible refine gate_callee (f:=64) rfl ?_);refine sC (some 21) Try.func64 #[.slice A0 l0.length c0,.string (rdOf ByteArray.empty b a)] (spec_l12Find.calls k1 _ _ l0 (rdOf ByteArray.empty b a) z _ ?side1 ?side2 I.out) ?_;(case side1=>exact sD (zC B.out HB.out));(case side2=>exact D.out);rintro e w' ⟨rfl,⟨nd,rfl⟩⟩;refine⟨_,rfl,?_⟩))
 go_ret
 exact⟨sq,sb⟩)
 rw[if_neg l]at H
 have c13b0:=zF l
 clear l
 have H':=zM H
 clear H
 obtain⟨ao,ap,ag⟩:=Kd.R_slice i.out
 subst ag
 have d:0≤(a:Int):=zzA
 have g:a<(b.length:Int):=zzA
 obtain⟨ae,A,af⟩:=Kd.at_string (Kd.R_reads' i.out).2.2 a d g
 cases A
 replace d:=eq_true d
 replace g:=eq_true g
 go_wp2_with (first|((with_reducible refine gate_callee (f:=64) rfl ?_);refine sC (some 21) Try.func64 #[.slice A0 l0.length c0,.string (rdOf ByteArray.empty b a)] (spec_l12Find.calls k1 _ _ l0 (rdOf ByteArray.empty b a) z _ ?side1 ?side2 I.out) ?_;(case side1=>exact sD (zC B.out HB.out));(case side2=>exact D.out);rintro e w' ⟨rfl,⟨nd,rfl⟩⟩;refine⟨_,rfl,?_⟩))
 go_roundg k1
 case measure=>have:=G.out;omega
 case rel=>exact⟨(wrap64 (a+1)),sr,H',⟨by have:=G.out;omega⟩,⟨by exact sE i.out⟩,⟨by exact sT c.out⟩,⟨sb⟩⟩)
 rw[if_neg p]at H
 exact absurd H (by simp))
 rw[if_neg j]at H
 have c10b0:=zF j
 clear j
 obtain rfl:=zI H
 obtain⟨aq,ar,ah⟩:=Kd.R_slice i.out
 subst ah
 go_wp2
 go_ret
 exact⟨sq,sb⟩))
end Go.Proofs.Ytdihlgkcpooadaa.PFnExactIsPure
