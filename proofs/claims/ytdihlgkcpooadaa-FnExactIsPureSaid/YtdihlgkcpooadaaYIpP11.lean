/- Printed functions: spec_l15Ask. -/
import Derived.Test.YtdihlgkcpooadaaYIpP0
import Derived.Test.YtdihlgkcpooadaaYIpP6
import Derived.Test.YtdihlgkcpooadaaYIpP7
import Derived.Test.YtdihlgkcpooadaaYIpP9
import Derived.Test.YtdihlgkcpooadaaYIpP10
namespace Go.Proofs.Ytdihlgkcpooadaa.PFnExactIsPure
open Go.RowKit Go.Proofs.YtdihlgkcpooadaaG Go.Proofs.YtdihlgkcpooadaaW.PrintWords Go.Proofs.YtdihlgkcpooadaaW.PrintLast Go.Proofs.YtdihlgkcpooadaaW.PrintMore
attribute [local go_sem] max2_int min2_int max_two min_two max_three min_three max_four min_four
set_option linter.unusedVariables false
set_option linter.unusedSimpArgs false
mutual
def spec_l15Ask.j0 : Nat → List (S52) → Bool → Int → Int → ByteArray → List (S36) → Option ((List (S52)) × Int)
 |0,_,_,_,_,_,_=>none
 |k+1,x0,x15,x224000,x224001,x224002,x224003=>if x15=true then(some (([]:List (S52)),1))else((spec_l15Reached.f k x0 x224000 x224001 x224002 x224003).bind fun t226=>((spec_l15Defined.f k x0 x224000 x224001 x224002 x224003).bind fun t229=>(if t229=true then(spec_l15Ask.l0 k x0 t226 0)else(some (([]:List (S52)),5)))))
def spec_l15Ask.l0 : Nat → List (S52) → List (S52) → Int → Option ((List (S52)) × Int)
 |0,_,_,_=>none
 |k+1,x0,x6,x7=>if x7<(x6.length:Int)then(if 0≤x7 then((spec_l15Defined.f k x0 ((rd_T52 x6 x7).f1.f0) ((rd_T52 x6 x7).f1.f1) ((rd_T52 x6 x7).f1.f2) ((rd_T52 x6 x7).f1.f3)).bind fun t231=>(if t231=true then(spec_l15Ask.l0 k x0 x6 (wrap64 (x7+1)))else(some (([]:List (S52)),5))))else(none))else(some (x6,0))
end
def spec_l15Ask.f (k:Nat) (l0:List (S52)) (a1_0:Int) (a1_1:Int) (a1_2:ByteArray) (l1_3:List (S36)):Option ((List (S52))×Int):=(spec_ValidEnv.f k l0).bind fun t224=>(if t224=true then((spec_ValidPattern.f k a1_0 a1_1 a1_2 l1_3).bind fun t225=>(spec_l15Ask.j0 k l0 (!t225) a1_0 a1_1 a1_2 l1_3))else(spec_l15Ask.j0 k l0 true a1_0 a1_1 a1_2 l1_3))
set_option maxHeartbeats 8000000 in
set_option maxRecDepth 100000 in
theorem spec_l15Ask.calls (k:Nat) (P0_:Nat→Prop) (A0:Option Addr) (c0:Nat) (l0:List (S52)) (a1_0:Int) (a1_1:Int) (a1_2:ByteArray) (P1_3_:Nat→Prop) (A1_3:Option Addr) (c1_3:Nat) (l1_3:List (S36)) (r1:List (S52)) (r2:Int) (w:World) (hs0:Kd.V k52 52 w w.heap.size (fun a=>P0_ a) (.slice A0 l0.length c0) l0) (hs1_3:Kd.V k36 36 w w.heap.size (fun a=>P1_3_ a) (.slice A1_3 l1_3.length c1_3) l1_3) (h:spec_l15Ask.f k l0 a1_0 a1_1 a1_2 l1_3=some (r1,r2)):
  Calls Try.prog 33 #[.slice A0 l0.length c0,.agg #[.int .i64 a1_0,.int .i64 a1_1,.string a1_2,.slice A1_3 l1_3.length c1_3]] w fun e w'=>∃am:Value,e= .returned (.tuple #[am,.int .i64 r2])∧Kd.V k52 52 w' w.heap.size (fun a=>((P0_ a∨P1_3_ a)∨w.heap.size≤a)) am r1∧Below w.heap.size w w':=by
 have aZ:=Try.underlying36
 have s:=zM (show Kd.V k52 52 w w.heap.size (fun a=>((P0_ a∨P1_3_ a)∨w.heap.size≤a)) (.slice A0 l0.length c0) l0 from Kd.V_mono hs0 (fun a hk=> .inl (.inl hk)))
 have x:=zM (show Kd.V k36 36 w w.heap.size (fun a=>((P0_ a∨P1_3_ a)∨w.heap.size≤a)) (.slice A1_3 l1_3.length c1_3) l1_3 from Kd.V_mono hs1_3 (fun a hk=> .inl (.inr hk)))
 have HB:=zM (Below.refl w.heap.size w)
 have H:((spec_ValidEnv.f k l0).bind fun ac=>(if ac=true then((spec_ValidPattern.f k a1_0 a1_1 a1_2 l1_3).bind fun W=>(spec_l15Ask.j0 k l0 (!W) a1_0 a1_1 a1_2 l1_3))else(spec_l15Ask.j0 k l0 true a1_0 a1_1 a1_2 l1_3)))=some (r1,r2):=h
 clear h
 have ad:=zM H
 clear H
 go_enter Try.func33,Try.ntmps33
 go_upto_region 1 with(first|((with_reducible refine gate_dst (N:=3) rfl ?_);refine sV (N:=3) (cs:= #[.int .i64 a1_0,.int .i64 a1_1,.string a1_2,.slice A1_3 l1_3.length c1_3]) (t:=36) ?_;intro u hg w4 hbox hb;have i:=zM (Kd.V_below (Kd.V_elderB (by(with_reducible repeat(first|apply Kd.V_alloc|apply Kd.V_drewN|apply Kd.V_drew));exact s.out) u (Nat.le_of_eq hg.symm)) hb);have j:=zM (Kd.V_below (Kd.V_elderB (by(with_reducible repeat(first|apply Kd.V_alloc|apply Kd.V_drewN|apply Kd.V_drew));exact x.out) u (Nat.le_of_eq hg.symm)) hb);have l:=sB HB hb;have m:=zM (hbox);have r:=sG HB hg;have C:=sG HB hg;clear s;clear x;clear HB;have s:=i;have x:=j;have HB:=l;have b:=m;have a0:=r;have X:=C;clear i j l m r C;clear hb hbox hg))
 (try simp only[zP])
 go_cut [15] (fun av wc=>∃(kq:Nat) (Y:Bool),av= .bool Y∧Aside0 (spec_l15Ask.j0 kq l0 Y a1_0 a1_1 a1_2 l1_3=some (r1,r2))∧Aside0 (kq≤k)∧Aside0 (Kd.V k52 52 wc w.heap.size (fun a=>((P0_ a∨P1_3_ a)∨w.heap.size≤a)∧a≠u) (.slice A0 l0.length c0) l0)∧Aside0 (Kd.V k36 36 wc w.heap.size (fun a=>((P0_ a∨P1_3_ a)∨w.heap.size≤a)∧a≠u) (.slice A1_3 l1_3.length c1_3) l1_3)∧Aside0 (wc.heap[u]?=some (.cells #[.int .i64 a1_0,.int .i64 a1_1,.string a1_2,(.slice A1_3 l1_3.length c1_3)] 36 (0,0)))∧Aside0 (Below w.heap.size w wc))
 case first=>(
 have H:=ad.out
 clear ad
 obtain⟨ac,A5,H⟩:=sO H
 by_cases Z:ac=true
 ·(
 subst Z
 rewrite[if_pos rfl]at H
 obtain⟨W,A7,H⟩:=sO H
 have H':=zM H
 clear H
 go_wp2_with (first|((with_reducible refine gate_callee (f:=8) rfl ?_);refine sC (some 9) Try.func8 #[.slice A0 l0.length c0] (spec_ValidEnv.calls k _ _ l0 true _ ?side1 ?side2 A5.out) ?_;(case side1=>exact sD ((Kd.V_reads' s.out).2.2));(case side2=>exact(Kd.V_reads' s.out).2.1);rintro e w8 ⟨rfl,hb⟩;refine⟨_,rfl,?_⟩;have i:=zM (Kd.V_below (by(with_reducible repeat(first|apply Kd.V_alloc|apply Kd.V_drewN|apply Kd.V_drew));exact s.out) hb);have j:=zM (Kd.V_below (by(with_reducible repeat(first|apply Kd.V_alloc|apply Kd.V_drewN|apply Kd.V_drew));exact x.out) hb);have l:=sK b hb;have m:=sB HB hb;clear s;clear x;clear b;clear HB;have s:=i;have x:=j;have b:=l;have HB:=m;clear i j l m;(try clear hb);obtain⟨a1,a2,a3,a4,a5,a6,a7,a8⟩:=cells4 b.out)|(go_at_call 24;(with_reducible refine(spec_ValidPattern.calls k a1_0 a1_1 a1_2 _ _ l1_3 W _ ?side1 ?side2 A7.out).mono ?_);(case side1=>exact sD ((Kd.V_reads' x.out).2.2));(case side2=>exact(Kd.V_reads' x.out).2.1);rintro e a9 ⟨rfl,hb⟩;have i:=zM (Kd.V_below (by(with_reducible repeat(first|apply Kd.V_alloc|apply Kd.V_drewN|apply Kd.V_drew));exact s.out) hb);have j:=zM (Kd.V_below (by(with_reducible repeat(first|apply Kd.V_alloc|apply Kd.V_drewN|apply Kd.V_drew));exact x.out) hb);have l:=sK b hb;have m:=sB HB hb;clear s;clear x;clear b;clear HB;have s:=i;have x:=j;have b:=l;have HB:=m;clear i j l m;(try clear hb)))
 go_meet
 case rel=>exact⟨_,(!W),sr,H',⟨by first|omega|exact Nat.le_refl _⟩,⟨by(with_reducible repeat(first|apply Kd.V_alloc|apply Kd.V_drewN|apply Kd.V_drew));exact s.out⟩,⟨by(with_reducible repeat(first|apply Kd.V_alloc|apply Kd.V_drewN|apply Kd.V_drew));exact x.out⟩,⟨by exact sT b.out⟩,⟨sb⟩⟩)
 replace Z:=zB Z
 subst Z
 rewrite[if_neg zQ]at H
 have H':=zM H
 clear H
 go_wp2_with (first|((with_reducible refine gate_callee (f:=8) rfl ?_);refine sC (some 9) Try.func8 #[.slice A0 l0.length c0] (spec_ValidEnv.calls k _ _ l0 false _ ?side1 ?side2 A5.out) ?_;(case side1=>exact sD ((Kd.V_reads' s.out).2.2));(case side2=>exact(Kd.V_reads' s.out).2.1);rintro e ba ⟨rfl,hb⟩;refine⟨_,rfl,?_⟩;have i:=zM (Kd.V_below (by(with_reducible repeat(first|apply Kd.V_alloc|apply Kd.V_drewN|apply Kd.V_drew));exact s.out) hb);have j:=zM (Kd.V_below (by(with_reducible repeat(first|apply Kd.V_alloc|apply Kd.V_drewN|apply Kd.V_drew));exact x.out) hb);have l:=sK b hb;have m:=sB HB hb;clear s;clear x;clear b;clear HB;have s:=i;have x:=j;have b:=l;have HB:=m;clear i j l m;(try clear hb)))
 go_meet
 case rel=>exact⟨_,(true),sr,H',⟨by first|omega|exact Nat.le_refl _⟩,⟨by(with_reducible repeat(first|apply Kd.V_alloc|apply Kd.V_drewN|apply Kd.V_drew));exact s.out⟩,⟨by(with_reducible repeat(first|apply Kd.V_alloc|apply Kd.V_drewN|apply Kd.V_drew));exact x.out⟩,⟨by exact sT b.out⟩,⟨sb⟩⟩)
 case rest=>(
 clear ad
 obtain⟨kq,Y,rfl,HA,an,d,n,b,HB⟩:=hcut
 cases kq with
 |zero=>exact absurd HA.out (by simp[spec_l15Ask.j0])
 |succ kj2=>(
 have H:=HA.out
 clear HA
 simp only[spec_l15Ask.j0]at H
 by_cases K:Y=true
 ·(
 subst K
 rewrite[if_pos rfl]at H
 simp only[Option.some.injEq,Prod.mk.injEq]at H
 obtain⟨rfl,rfl⟩:=H
 go_wp2
 go_ret2
 exact⟨_,sq,Kd.V_nil _ _ _ _ _,sb⟩)
 replace K:=zB K
 subst K
 rewrite[if_neg zQ]at H
 obtain⟨p,ao,H⟩:=sO H
 obtain⟨aw,ap,H⟩:=sO H
 by_cases L:aw=true
 ·(
 subst L
 rewrite[if_pos rfl]at H
 have H':=zM H
 clear H
 obtain⟨ax,ay,az,aA,aB,aC,aD,aE⟩:=cells4 b.out
 go_wp2_with (first|((with_reducible refine gate_callee (f:=56) rfl ?_);refine sC (some 18) Try.func56 #[.slice A0 l0.length c0,.agg #[.int .i64 a1_0,.int .i64 a1_1,.string a1_2,.slice A1_3 l1_3.length c1_3]] (spec_l15Reached.calls kj2 (fun a=>(((P0_ a∨P1_3_ a)∨w.heap.size≤a)∧a≠u)) _ _ l0 a1_0 a1_1 a1_2 (fun a=>(((P0_ a∨P1_3_ a)∨w.heap.size≤a)∧a≠u)) _ _ l1_3 p _ ?side1 ?side2 ao.out) ?_;(case side1=>exact d.out);(case side2=>exact n.out);rintro e bb ⟨aq,rfl,M,hb⟩;refine⟨_,rfl,?_⟩;have i:=zM (Kd.V_below (by(with_reducible repeat(first|apply Kd.V_alloc|apply Kd.V_drewN|apply Kd.V_drew));exact d.out) hb);have j:=zM (Kd.V_below (by(with_reducible repeat(first|apply Kd.V_alloc|apply Kd.V_drewN|apply Kd.V_drew));exact n.out) hb);have l:=zM (Kd.V_lower (Kd.V_mono (ok':=fun a=>((P0_ a∨P1_3_ a)∨w.heap.size≤a)∧a≠u) M (fun a O=>⟨Or.elim O (fun q=>Or.elim q (fun q=>q.1) (fun q=>q.1)) (fun E=>(.inr (Nat.le_trans (below_size zzR) E))),Or.elim O (fun q=>Or.elim q (fun q=>q.2) (fun q=>q.2)) (fun E=>(Kd.freshB (g:=u) (o:= .cells #[.int .i64 a1_0,.int .i64 a1_1,.string a1_2,.slice A1_3 l1_3.length c1_3] 36 (0,0)) (sT b.out) a E))⟩)) (below_size zzR));have m:=sK b hb;have r:=sB HB hb;clear d;clear n;clear b;clear HB;have d:=i;have n:=j;have D:=l;have b:=m;have HB:=r;clear i j l m r;(try clear hb);(try clear M);obtain⟨aF,aG,aH,aI,aJ,aK,aL,aM⟩:=cells4 b.out)|((with_reducible refine gate_callee (f:=57) rfl ?_);refine sC (some 21) Try.func57 #[.slice A0 l0.length c0,.agg #[.int .i64 a1_0,.int .i64 a1_1,.string a1_2,.slice A1_3 l1_3.length c1_3]] (spec_l15Defined.calls kj2 _ _ l0 a1_0 a1_1 a1_2 _ _ l1_3 true _ ?side1 ?side2 ?side3 ?side4 ap.out) ?_;(case side1=>exact sD ((Kd.V_reads' d.out).2.2));(case side2=>exact(Kd.V_reads' d.out).2.1);(case side3=>exact sD ((Kd.V_reads' n.out).2.2));(case side4=>exact(Kd.V_reads' n.out).2.1);rintro e bc ⟨rfl,hb⟩;refine⟨_,rfl,?_⟩;have i:=zM (Kd.V_below (by(with_reducible repeat(first|apply Kd.V_alloc|apply Kd.V_drewN|apply Kd.V_drew));exact d.out) hb);have j:=zM (Kd.V_below (by(with_reducible repeat(first|apply Kd.V_alloc|apply Kd.V_drewN|apply Kd.V_drew));exact n.out) hb);have l:=zM (Kd.V_below (by(with_reducible repeat(first|apply Kd.V_alloc|apply Kd.V_drewN|apply Kd.V_drew));exact D.out) hb);have m:=sK b hb;have r:=sB HB hb;clear d;clear n;clear D;clear b;clear HB;have d:=i;have n:=j;have D:=l;have b:=m;have HB:=r;clear i j l m r;(try clear hb)))
 go_loopg [7] kj2 (fun kq v7 w'=>∃(c:Int),v7= .int .i64 c∧Aside0 (spec_l15Ask.l0 kq l0 p c=some (r1,r2))∧Aside0 (kq≤kj2)∧Aside0 (Kd.V k52 52 w' w.heap.size (fun a=>((P0_ a∨P1_3_ a)∨w.heap.size≤a)∧a≠u) (.slice A0 l0.length c0) l0)∧Aside0 (Kd.V k52 52 w' w.heap.size (fun a=>((P0_ a∨P1_3_ a)∨w.heap.size≤a)∧a≠u) aq p)∧Aside0 (Kd.V k36 36 w' w.heap.size (fun a=>((P0_ a∨P1_3_ a)∨w.heap.size≤a)∧a≠u) (.slice A1_3 l1_3.length c1_3) l1_3)∧Aside0 (w'.heap[u]?=some (.cells #[.int .i64 a1_0,.int .i64 a1_1,.string a1_2,(.slice A1_3 l1_3.length c1_3)] 36 (0,0)))∧Aside0 (Below w.heap.size w w'))
 case atStart=>exact⟨(0),sr,H',⟨Nat.le_refl _⟩,⟨by(with_reducible repeat(first|apply Kd.V_alloc|apply Kd.V_drewN|apply Kd.V_drew));exact d.out⟩,⟨by(with_reducible repeat(first|apply Kd.V_alloc|apply Kd.V_drewN|apply Kd.V_drew));exact D.out⟩,⟨by(with_reducible repeat(first|apply Kd.V_alloc|apply Kd.V_drewN|apply Kd.V_drew));exact n.out⟩,⟨by exact sT b.out⟩,⟨sb⟩⟩
 case round=>(
 clear H'
 try clear K
 try clear L
 try clear ax
 try clear ay
 try clear az
 try clear aA
 try clear aF
 try clear aG
 try clear aH
 try clear aI
 try clear aB
 try clear aC
 try clear aD
 try clear aE
 try clear aJ
 try clear aK
 try clear aL
 try clear aM
 obtain⟨c,rfl,HA,ar,d,v,n,b,HB⟩:=hrel
 cases gk with
 |zero=>exact absurd HA.out (by simp[spec_l15Ask.l0])
 |succ k2=>(
 have H:=HA.out
 clear HA
 simp only[spec_l15Ask.l0]at H
 by_cases J:c<(p.length:Int)
 ·(
 rw[if_pos J]at H
 have c20b0:=zT J
 clear J
 by_cases aa:0≤c
 ·(
 rw[if_pos aa]at H
 have c21b0:=zT aa
 clear aa
 obtain⟨aN,au,H⟩:=sO H
 by_cases ab:aN=true
 ·(
 subst ab
 rewrite[if_pos rfl]at H
 have H':=zM H
 clear H
 obtain⟨bd,be,aO⟩:=Kd.V_slice v.out
 subst aO
 have z:0≤(c:Int):=zzA
 have A:c<(p.length:Int):=zzA
 obtain⟨aP,ae,af,ag,aQ,aR,aS,aT,ah,P,Q⟩:=at_T52 (Kd.V_reads' v.out).2.2 c z A
 cases ag
 obtain⟨aU,ai,aj,R⟩:=Kd.V_get v.out z52 c z (by first|exact A|exact zzA|(have e_:=(Kd.V_reads' v.out).1;omega))
 obtain⟨aV,aW,rfl,F,G⟩:=k52_openF aj
 have B:=R 4 _ rfl
 rw[add_field _ _ 4 (by omega)]at B
 replace B:=zI (B.symm.trans ah)
 injection B with S ak T
 rw[S]at G
 rw[T]at F
 have I:=zM (show Kd.V k36 36 _ w.heap.size _ _ ((rd_T52 p c).f1.f3) from Kd.V_mk F G)
 clear S ak T G F
 clear R ai
 have y:=zM Q
 have al:=zM P
 clear Q P
 replace z:=eq_true z
 replace A:=eq_true A
 go_wp2_with (first|((with_reducible refine gate_callee (f:=57) rfl ?_);refine sC (some 35) Try.func57 #[.slice A0 l0.length c0,.agg #[.int .i64 ((rd_T52 p c).f1.f0),.int .i64 ((rd_T52 p c).f1.f1),.string ((rd_T52 p c).f1.f2),.slice ae ((rd_T52 p c).f1.f3).length af]] (spec_l15Defined.calls k2 _ _ l0 ((rd_T52 p c).f1.f0) ((rd_T52 p c).f1.f1) ((rd_T52 p c).f1.f2) _ _ ((rd_T52 p c).f1.f3) true _ ?side1 ?side2 ?side3 ?side4 au.out) ?_;(case side1=>exact sD ((Kd.V_reads' d.out).2.2));(case side2=>exact(Kd.V_reads' d.out).2.1);(case side3=>exact sD (by repeat(first|(with_reducible exact y.out)|(with_reducible refine Kd.C_alloc ?_ _)|(with_reducible refine Kd.C_drewN ?_ _)|(with_reducible refine Kd.C_drew ?_)|exact y.out)));(case side4=>exact al.out);rintro e bf ⟨rfl,hb⟩;refine⟨_,rfl,?_⟩;have i:=zM (Kd.V_below (by(with_reducible repeat(first|apply Kd.V_alloc|apply Kd.V_drewN|apply Kd.V_drew));exact d.out) hb);have j:=zM (Kd.V_below (by(with_reducible repeat(first|apply Kd.V_alloc|apply Kd.V_drewN|apply Kd.V_drew));exact v.out) hb);have l:=zM (Kd.V_below (by(with_reducible repeat(first|apply Kd.V_alloc|apply Kd.V_drewN|apply Kd.V_drew));exact n.out) hb);have m:=zM (Kd.V_below (by(with_reducible repeat(first|apply Kd.V_alloc|apply Kd.V_drewN|apply Kd.V_drew));exact I.out) hb);have r:=sK b hb;have C:=zM (zC (by repeat(first|(with_reducible exact y.out)|(with_reducible refine Kd.C_alloc ?_ _)|(with_reducible refine Kd.C_drewN ?_ _)|(with_reducible refine Kd.C_drew ?_)|exact y.out)) hb);have U:=sB HB hb;clear d;clear v;clear n;clear I;clear b;clear y;clear HB;have d:=i;have v:=j;have n:=l;have I:=m;have b:=r;have y:=C;have HB:=U;clear i j l m r C U;(try clear hb)))
 go_roundg k2
 case measure=>have:=an.out;have:=ar.out;omega
 case rel=>exact⟨(wrap64 (c+1)),sr,H',⟨by have:=an.out;have:=ar.out;omega⟩,⟨by(with_reducible repeat(first|apply Kd.V_alloc|apply Kd.V_drewN|apply Kd.V_drew));exact d.out⟩,⟨by(with_reducible repeat(first|apply Kd.V_alloc|apply Kd.V_drewN|apply Kd.V_drew));exact v.out⟩,⟨by(with_reducible repeat(first|apply Kd.V_alloc|apply Kd.V_drewN|apply Kd.V_drew));exact n.out⟩,⟨by exact sT b.out⟩,⟨sb⟩⟩)
 replace ab:=zB ab
 subst ab
 rewrite[if_neg zQ]at H
 simp only[Option.some.injEq,Prod.mk.injEq]at H
 obtain⟨rfl,rfl⟩:=H
 obtain⟨bg,bh,aX⟩:=Kd.V_slice v.out
 subst aX
 have z:0≤(c:Int):=zzA
 have A:c<(p.length:Int):=zzA
 obtain⟨aP,ae,af,ag,aQ,aR,aS,aT,ah,P,Q⟩:=at_T52 (Kd.V_reads' v.out).2.2 c z A
 cases ag
 obtain⟨aU,ai,aj,R⟩:=Kd.V_get v.out z52 c z (by first|exact A|exact zzA|(have e_:=(Kd.V_reads' v.out).1;omega))
 obtain⟨aV,aW,rfl,F,G⟩:=k52_openF aj
 have B:=R 4 _ rfl
 rw[add_field _ _ 4 (by omega)]at B
 replace B:=zI (B.symm.trans ah)
 injection B with S ak T
 rw[S]at G
 rw[T]at F
 have I:=zM (show Kd.V k36 36 _ w.heap.size _ _ ((rd_T52 p c).f1.f3) from Kd.V_mk F G)
 clear S ak T G F
 clear R ai
 have y:=zM Q
 have al:=zM P
 clear Q P
 replace z:=eq_true z
 replace A:=eq_true A
 go_wp2_with (first|((with_reducible refine gate_callee (f:=57) rfl ?_);refine sC (some 35) Try.func57 #[.slice A0 l0.length c0,.agg #[.int .i64 ((rd_T52 p c).f1.f0),.int .i64 ((rd_T52 p c).f1.f1),.string ((rd_T52 p c).f1.f2),.slice ae ((rd_T52 p c).f1.f3).length af]] (spec_l15Defined.calls k2 _ _ l0 ((rd_T52 p c).f1.f0) ((rd_T52 p c).f1.f1) ((rd_T52 p c).f1.f2) _ _ ((rd_T52 p c).f1.f3) false _ ?side1 ?side2 ?side3 ?side4 au.out) ?_;(case side1=>exact sD ((Kd.V_reads' d.out).2.2));(case side2=>exact(Kd.V_reads' d.out).2.1);(case side3=>exact sD (by repeat(first|(with_reducible exact y.out)|(with_reducible refine Kd.C_alloc ?_ _)|(with_reducible refine Kd.C_drewN ?_ _)|(with_reducible refine Kd.C_drew ?_)|exact y.out)));(case side4=>exact al.out);rintro e bi ⟨rfl,hb⟩;refine⟨_,rfl,?_⟩;have i:=zM (Kd.V_below (by(with_reducible repeat(first|apply Kd.V_alloc|apply Kd.V_drewN|apply Kd.V_drew));exact d.out) hb);have j:=zM (Kd.V_below (by(with_reducible repeat(first|apply Kd.V_alloc|apply Kd.V_drewN|apply Kd.V_drew));exact v.out) hb);have l:=zM (Kd.V_below (by(with_reducible repeat(first|apply Kd.V_alloc|apply Kd.V_drewN|apply Kd.V_drew));exact n.out) hb);have m:=zM (Kd.V_below (by(with_reducible repeat(first|apply Kd.V_alloc|apply Kd.V_drewN|apply Kd.V_drew));exact I.out) hb);have r:=sK b hb;have C:=zM (zC (by repeat(first|(with_reducible exact y.out)|(with_reducible refine Kd.C_alloc ?_ _)|(with_reducible refine Kd.C_drewN ?_ _)|(with_reducible refine Kd.C_drew ?_)|exact y.out)) hb);have U:=sB HB hb;clear d;clear v;clear n;clear I;clear b;clear y;clear HB;have d:=i;have v:=j;have n:=l;have I:=m;have b:=r;have y:=C;have HB:=U;clear i j l m r C U;(try clear hb)))
 go_ret2
 exact⟨_,sq,Kd.V_nil _ _ _ _ _,sb⟩)
 rw[if_neg aa]at H
 exact absurd H (by simp))
 rw[if_neg J]at H
 have c20b0:=zF J
 clear J
 simp only[Option.some.injEq,Prod.mk.injEq]at H
 obtain⟨rfl,rfl⟩:=H
 obtain⟨bj,bk,aY⟩:=Kd.V_slice v.out
 subst aY
 go_wp2
 go_ret2
 exact⟨_,sq,by(with_reducible repeat(first|apply Kd.V_alloc|apply Kd.V_drewN|apply Kd.V_drew));exact Kd.V_mono v.out (fun _ hk=>hk.1),sb⟩)))
 replace L:=zB L
 subst L
 rewrite[if_neg zQ]at H
 simp only[Option.some.injEq,Prod.mk.injEq]at H
 obtain⟨rfl,rfl⟩:=H
 obtain⟨bl,bm,bn,bo,bp,bq,br,bs⟩:=cells4 b.out
 go_wp2_with (first|((with_reducible refine gate_callee (f:=56) rfl ?_);refine sC (some 18) Try.func56 #[.slice A0 l0.length c0,.agg #[.int .i64 a1_0,.int .i64 a1_1,.string a1_2,.slice A1_3 l1_3.length c1_3]] (spec_l15Reached.calls kj2 (fun a=>(((P0_ a∨P1_3_ a)∨w.heap.size≤a)∧a≠u)) _ _ l0 a1_0 a1_1 a1_2 (fun a=>(((P0_ a∨P1_3_ a)∨w.heap.size≤a)∧a≠u)) _ _ l1_3 p _ ?side1 ?side2 ao.out) ?_;(case side1=>exact d.out);(case side2=>exact n.out);rintro e bt ⟨aq,rfl,M,hb⟩;refine⟨_,rfl,?_⟩;have i:=zM (Kd.V_below (by(with_reducible repeat(first|apply Kd.V_alloc|apply Kd.V_drewN|apply Kd.V_drew));exact d.out) hb);have j:=zM (Kd.V_below (by(with_reducible repeat(first|apply Kd.V_alloc|apply Kd.V_drewN|apply Kd.V_drew));exact n.out) hb);have l:=zM (Kd.V_lower (Kd.V_mono (ok':=fun a=>((P0_ a∨P1_3_ a)∨w.heap.size≤a)∧a≠u) M (fun a O=>⟨Or.elim O (fun q=>Or.elim q (fun q=>q.1) (fun q=>q.1)) (fun E=>(.inr (Nat.le_trans (below_size zzR) E))),Or.elim O (fun q=>Or.elim q (fun q=>q.2) (fun q=>q.2)) (fun E=>(Kd.freshB (g:=u) (o:= .cells #[.int .i64 a1_0,.int .i64 a1_1,.string a1_2,.slice A1_3 l1_3.length c1_3] 36 (0,0)) (sT b.out) a E))⟩)) (below_size zzR));have m:=sK b hb;have r:=sB HB hb;clear d;clear n;clear b;clear HB;have d:=i;have n:=j;have D:=l;have b:=m;have HB:=r;clear i j l m r;(try clear hb);(try clear M);obtain⟨bu,bv,bw,bx,bz,bA,bB,bC⟩:=cells4 b.out)|((with_reducible refine gate_callee (f:=57) rfl ?_);refine sC (some 21) Try.func57 #[.slice A0 l0.length c0,.agg #[.int .i64 a1_0,.int .i64 a1_1,.string a1_2,.slice A1_3 l1_3.length c1_3]] (spec_l15Defined.calls kj2 _ _ l0 a1_0 a1_1 a1_2 _ _ l1_3 false _ ?side1 ?side2 ?side3 ?side4 ap.out) ?_;(case side1=>exact sD ((Kd.V_reads' d.out).2.2));(case side2=>exact(Kd.V_reads' d.out).2.1);(case side3=>exact sD ((Kd.V_reads' n.out).2.2));(case side4=>exact(Kd.V_reads' n.out).2.1);rintro e bD ⟨rfl,hb⟩;refine⟨_,rfl,?_⟩;have i:=zM (Kd.V_below (by(with_reducible repeat(first|apply Kd.V_alloc|apply Kd.V_drewN|apply Kd.V_drew));exact d.out) hb);have j:=zM (Kd.V_below (by(with_reducible repeat(first|apply Kd.V_alloc|apply Kd.V_drewN|apply Kd.V_drew));exact n.out) hb);have l:=zM (Kd.V_below (by(with_reducible repeat(first|apply Kd.V_alloc|apply Kd.V_drewN|apply Kd.V_drew));exact D.out) hb);have m:=sK b hb;have r:=sB HB hb;clear d;clear n;clear D;clear b;clear HB;have d:=i;have n:=j;have D:=l;have b:=m;have HB:=r;clear i j l m r;(try clear hb)))
 go_ret2
 exact⟨_,sq,Kd.V_nil _ _ _ _ _,sb⟩))
end Go.Proofs.Ytdihlgkcpooadaa.PFnExactIsPure
