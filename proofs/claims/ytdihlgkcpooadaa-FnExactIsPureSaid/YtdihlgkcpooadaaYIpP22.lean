/- Printed functions: impl_unless, impl_checkReferred, impl_IsPure. -/
import Derived.Test.YtdihlgkcpooadaaYIpP0
import Derived.Test.YtdihlgkcpooadaaYIpP18
import Derived.Test.YtdihlgkcpooadaaYIpP19
import Derived.Test.YtdihlgkcpooadaaYIpP21
import Derived.Test.YtdihlgkcpooadaaYIpP23
namespace Go.Proofs.Ytdihlgkcpooadaa.PFnExactIsPure
open Go.RowKit Go.Proofs.YtdihlgkcpooadaaG Go.Proofs.YtdihlgkcpooadaaW.PrintWords Go.Proofs.YtdihlgkcpooadaaW.PrintLast Go.Proofs.YtdihlgkcpooadaaW.PrintMore
attribute [local go_sem] max2_int min2_int max_two min_two max_three min_three max_four min_four
set_option linter.unusedVariables false
set_option linter.unusedSimpArgs false
def impl_unless.f (a0:Bool) (a1:Int):Option (Int):=if a0=true then(some 0)else(some a1)
set_option maxHeartbeats 8000000 in
set_option maxRecDepth 100000 in
theorem impl_unless.calls (a0:Bool) (a1:Int) (r:Int) (w:World) (h:impl_unless.f a0 a1=some r):
  Calls Try.prog 58 #[.bool a0,.int .i64 a1] w fun e w'=>e= .returned (.int .i64 r)∧Drawn0 w w':=by
 have H:(if a0=true then(some 0)else(some a1))=some r:=h
 clear h
 by_cases a:a0=true
 ·(
 subst a
 rewrite[if_pos rfl]at H
 obtain rfl:=zI H
 go_enter Try.func58,Try.ntmps58
 go_wp2
 go_ret
 exact⟨by first|rfl|(simp;done)|(simp[*];done),by repeat(first|exact Drawn0.refl _|apply Drawn0.step)⟩)
 replace a:=zB a
 subst a
 rewrite[if_neg zQ]at H
 obtain rfl:=zI H
 go_enter Try.func58,Try.ntmps58
 go_wp2
 go_ret
 exact⟨by first|rfl|(simp;done)|(simp[*];done),by repeat(first|exact Drawn0.refl _|apply Drawn0.step)⟩
def impl_checkReferred.j0 : Nat → List (S52) → Bool → Int → Int → ByteArray → List (S36) → Option (Int)
 |0,_,_,_,_,_,_=>none
 |k+1,x0,x14,x336000,x336001,x336002,x336003=>if x14=true then(some 1)else((impl_referred.f k x0 x336000 x336001 x336002 x336003).bind fun bt338=>((impl_unless.f bt338.2 5).bind fun t342=>(some t342)))
def impl_checkReferred.f (k:Nat) (l0:List (S52)) (a1_0:Int) (a1_1:Int) (a1_2:ByteArray) (l1_3:List (S36)):Option (Int):=(impl_ValidEnv.f k l0).bind fun t336=>(if t336=true then((impl_ValidPattern.f k a1_0 a1_1 a1_2 l1_3).bind fun t337=>(impl_checkReferred.j0 k l0 (!t337) a1_0 a1_1 a1_2 l1_3))else(impl_checkReferred.j0 k l0 true a1_0 a1_1 a1_2 l1_3))
set_option maxHeartbeats 8000000 in
set_option maxRecDepth 100000 in
theorem impl_checkReferred.calls (k:Nat) (A0:Option Addr) (c0:Nat) (l0:List (S52)) (a1_0:Int) (a1_1:Int) (a1_2:ByteArray) (A1_3:Option Addr) (c1_3:Nat) (l1_3:List (S36)) (r:Int) (w:World) (hr0:Kd.C k52 w A0 l0.length l0) (hc0:l0.length≤c0) (hr1_3:Kd.C k36 w A1_3 l1_3.length l1_3) (hc1_3:l1_3.length≤c1_3) (h:impl_checkReferred.f k l0 a1_0 a1_1 a1_2 l1_3=some r):
  Calls Try.prog 36 #[.slice A0 l0.length c0,.agg #[.int .i64 a1_0,.int .i64 a1_1,.string a1_2,.slice A1_3 l1_3.length c1_3]] w fun e w'=>e= .returned (.int .i64 r)∧Below w.heap.size w w':=by
 have S:=Try.underlying36
 have m:=zM hr0
 have n:=zM hc0
 clear hr0 hc0
 have v:=zM hr1_3
 have x:=zM hc1_3
 clear hr1_3 hc1_3
 have HB:=zM (Below.refl w.heap.size w)
 have H:((impl_ValidEnv.f k l0).bind fun p=>(if p=true then((impl_ValidPattern.f k a1_0 a1_1 a1_2 l1_3).bind fun c=>(impl_checkReferred.j0 k l0 (!c) a1_0 a1_1 a1_2 l1_3))else(impl_checkReferred.j0 k l0 true a1_0 a1_1 a1_2 l1_3)))=some r:=h
 clear h
 have q:=zM H
 clear H
 go_enter Try.func36,Try.ntmps36
 go_upto_region 1 with(first|((with_reducible refine gate_dst (N:=3) rfl ?_);refine sV (N:=3) (cs:= #[.int .i64 a1_0,.int .i64 a1_1,.string a1_2,.slice A1_3 l1_3.length c1_3]) (t:=36) ?_;intro s hg T hbox hb;have a:=zM (hbox);have G:=sG HB hg;have y:=sG HB hg;replace HB:=sB HB hb;clear hb hbox hg))
 (try simp only[zP])
 go_cut [14] (fun I wc=>∃(kq:Nat) (d:Bool),I= .bool d∧Aside0 (impl_checkReferred.j0 kq l0 d a1_0 a1_1 a1_2 l1_3=some r)∧Aside0 (kq≤k)∧Aside0 (wc.heap[s]?=some (.cells #[.int .i64 a1_0,.int .i64 a1_1,.string a1_2,(.slice A1_3 l1_3.length c1_3)] 36 (0,0)))∧Aside0 (Below w.heap.size w wc))
 case first=>(
 have H:=q.out
 clear q
 obtain⟨p,z,H⟩:=sO H
 by_cases i:p=true
 ·(
 subst i
 rewrite[if_pos rfl]at H
 obtain⟨c,J,H⟩:=sO H
 have H':=zM H
 clear H
 go_wp2_with (first|((with_reducible refine gate_callee (f:=10) rfl ?_);refine sC (some 8) Try.func10 #[.slice A0 l0.length c0] (impl_ValidEnv.calls k _ _ l0 true _ ?side1 ?side2 z.out) ?_;(case side1=>exact sD (zC m.out HB.out));(case side2=>exact n.out);rintro e U ⟨rfl,hb⟩;refine⟨_,rfl,?_⟩;replace a:=sK a hb;replace HB:=sB HB hb;(try clear hb);obtain⟨V,W,X,Y,Z,aa,ab,ac⟩:=cells4 a.out)|(go_at_call 29;(with_reducible refine(impl_ValidPattern.calls k a1_0 a1_1 a1_2 _ _ l1_3 c _ ?side1 ?side2 J.out).mono ?_);(case side1=>exact sD (zC v.out HB.out));(case side2=>exact x.out);rintro e ad ⟨rfl,hb⟩;replace a:=sK a hb;replace HB:=sB HB hb;(try clear hb)))
 go_meet
 case rel=>exact⟨_,(!c),sr,H',⟨by first|omega|exact Nat.le_refl _⟩,⟨by exact sT a.out⟩,⟨sb⟩⟩)
 replace i:=zB i
 subst i
 rewrite[if_neg zQ]at H
 have H':=zM H
 clear H
 go_wp2_with (first|((with_reducible refine gate_callee (f:=10) rfl ?_);refine sC (some 8) Try.func10 #[.slice A0 l0.length c0] (impl_ValidEnv.calls k _ _ l0 false _ ?side1 ?side2 z.out) ?_;(case side1=>exact sD (zC m.out HB.out));(case side2=>exact n.out);rintro e ae ⟨rfl,hb⟩;refine⟨_,rfl,?_⟩;replace a:=sK a hb;replace HB:=sB HB hb;(try clear hb)))
 go_meet
 case rel=>exact⟨_,(true),sr,H',⟨by first|omega|exact Nat.le_refl _⟩,⟨by exact sT a.out⟩,⟨sb⟩⟩)
 case rest=>(
 clear q
 obtain⟨kq,d,rfl,HA,af,a,HB⟩:=hcut
 cases kq with
 |zero=>exact absurd HA.out (by simp[impl_checkReferred.j0])
 |succ kj2=>(
 have H:=HA.out
 clear HA
 simp only[impl_checkReferred.j0]at H
 by_cases j:d=true
 ·(
 subst j
 rewrite[if_pos rfl]at H
 obtain rfl:=zI H
 go_wp2
 go_ret
 exact⟨sq,sb⟩)
 replace j:=zB j
 subst j
 rewrite[if_neg zQ]at H
 replace H:=Option.bind_eq_some_iff.mp H
 obtain⟨⟨K,l⟩,A,H⟩:=H
 replace H:((impl_unless.f l 5).bind fun u=>(some u))=some r:=H
 have L:=zM A
 clear A
 obtain⟨u,M,H⟩:=sO H
 obtain rfl:=zI H
 obtain⟨ag,ah,ai,aj,ak,al,am,an⟩:=cells4 a.out
 go_wp2_with (first|((with_reducible refine gate_callee (f:=37) rfl ?_);refine sC (some 18) Try.func37 #[.slice A0 l0.length c0,.agg #[.int .i64 a1_0,.int .i64 a1_1,.string a1_2,.slice A1_3 l1_3.length c1_3]] (impl_referred.calls kj2 (fun b=>b<w.heap.size) _ _ l0 a1_0 a1_1 a1_2 _ _ l1_3 K l _ ?side1 ?side2 ?side3 L.out) ?_;(case side1=>exact Kd.V_mk n.out (Kd.F_below (Kd.C_F k52_heap m.out) zzR));(case side2=>exact sD (zC v.out HB.out));(case side3=>exact x.out);rintro e ao ⟨ap,rfl,B,hb⟩;refine⟨_,rfl,?_⟩;have D:=zM (Kd.N_lower (Kd.N_mono (ok':=fun b=>b≠s) B (fun b O=>Or.elim O (fun P=>fun Q=>Nat.not_le.2 P (by rw[Q];exact G.out)) (fun R=>(Kd.freshB (g:=s) (o:= .cells #[.int .i64 a1_0,.int .i64 a1_1,.string a1_2,.slice A1_3 l1_3.length c1_3] 36 (0,0)) (sT a.out) b R)))) (below_size zzR));have E:=sK a hb;have F:=sB HB hb;clear a;clear HB;have aq:=D;have a:=E;have HB:=F;clear D E F;(try clear hb);(try clear B))|((with_reducible refine gate_callee (f:=58) rfl ?_);refine sC (some 22) Try.func58 #[.bool l,.int .i64 5] (impl_unless.calls l 5 u _ M.out) ?_;rintro e w' ⟨rfl,⟨nd,rfl⟩⟩;refine⟨_,rfl,?_⟩))
 go_ret
 exact⟨sq,sb⟩))
def impl_IsPure.f (k:Nat) (l0:List (S52)) (a1_0:Int) (a1_1:Int) (a1_2:ByteArray) (l1_3:List (S36)):Option (Bool):=(impl_checkReferred.f k l0 a1_0 a1_1 a1_2 l1_3).bind fun t349=>(if t349=0 then((impl_referred.f k l0 a1_0 a1_1 a1_2 l1_3).bind fun bt350=>((impl_Pattern_isPlainKind.f k a1_0 a1_1 a1_2 l1_3).bind fun t354=>(if t354=true then((impl_Pattern__impl_Pattern_isPlainKind.f k bt350.1).bind fun t355=>(some t355))else(some false))))else(some false))
set_option maxHeartbeats 8000000 in
set_option maxRecDepth 100000 in
theorem impl_IsPure.calls (k:Nat) (A0:Option Addr) (c0:Nat) (l0:List (S52)) (a1_0:Int) (a1_1:Int) (a1_2:ByteArray) (A1_3:Option Addr) (c1_3:Nat) (l1_3:List (S36)) (r:Bool) (w:World) (hr0:Kd.C k52 w A0 l0.length l0) (hc0:l0.length≤c0) (hr1_3:Kd.C k36 w A1_3 l1_3.length l1_3) (hc1_3:l1_3.length≤c1_3) (h:impl_IsPure.f k l0 a1_0 a1_1 a1_2 l1_3=some r):
  Calls Try.prog 15 #[.slice A0 l0.length c0,.agg #[.int .i64 a1_0,.int .i64 a1_1,.string a1_2,.slice A1_3 l1_3.length c1_3]] w fun e w'=>e= .returned (.bool r)∧Below w.heap.size w w':=by
 have T:=Try.underlying36
 have u:=zM hr0
 have v:=zM hc0
 clear hr0 hc0
 have m:=zM hr1_3
 have n:=zM hc1_3
 clear hr1_3 hc1_3
 have HB:=zM (Below.refl w.heap.size w)
 have H:((impl_checkReferred.f k l0 a1_0 a1_1 a1_2 l1_3).bind fun l=>(if l=0 then((impl_referred.f k l0 a1_0 a1_1 a1_2 l1_3).bind fun P=>((impl_Pattern_isPlainKind.f k a1_0 a1_1 a1_2 l1_3).bind fun x=>(if x=true then((impl_Pattern__impl_Pattern_isPlainKind.f k P.1).bind fun y=>(some y))else(some false))))else(some false)))=some r:=h
 clear h
 obtain⟨l,E,H⟩:=sO H
 by_cases p:l=0
 ·(
 rw[if_pos p]at H
 have c4b0:(l==0)=true:=zE p
 have c4b1:(l !=0)=false:=zY p
 clear p
 replace H:=Option.bind_eq_some_iff.mp H
 obtain⟨⟨A,K⟩,L,H⟩:=H
 replace H:((impl_Pattern_isPlainKind.f k a1_0 a1_1 a1_2 l1_3).bind fun x=>(if x=true then((impl_Pattern__impl_Pattern_isPlainKind.f k A).bind fun y=>(some y))else(some false)))=some r:=H
 have M:=zM L
 clear L
 obtain⟨x,O,H⟩:=sO H
 by_cases B:x=true
 ·(
 subst B
 rewrite[if_pos rfl]at H
 obtain⟨y,Q,H⟩:=sO H
 obtain rfl:=zI H
 go_enter Try.func15,Try.ntmps15
 go_wp2_with (first|((with_reducible refine gate_dst (N:=3) rfl ?_);refine sV (N:=3) (cs:= #[.int .i64 a1_0,.int .i64 a1_1,.string a1_2,.slice A1_3 l1_3.length c1_3]) (t:=36) ?_;intro q hg U hbox hb;have a:=zM (hbox);have D:=sG HB hg;have s:=sG HB hg;replace HB:=sB HB hb;clear hb hbox hg;obtain⟨V,W,X,Y,Z,aa,ab,ac⟩:=cells4 a.out)|((with_reducible refine gate_callee (f:=36) rfl ?_);refine sC (some 9) Try.func36 #[.slice A0 l0.length c0,.agg #[.int .i64 a1_0,.int .i64 a1_1,.string a1_2,.slice A1_3 l1_3.length c1_3]] (impl_checkReferred.calls k _ _ l0 a1_0 a1_1 a1_2 _ _ l1_3 l _ ?side1 ?side2 ?side3 ?side4 E.out) ?_;(case side1=>exact sD (zC u.out HB.out));(case side2=>exact v.out);(case side3=>exact sD (zC m.out HB.out));(case side4=>exact n.out);rintro e ad ⟨rfl,hb⟩;refine⟨_,rfl,?_⟩;replace a:=sK a hb;replace HB:=sB HB hb;(try clear hb);obtain⟨ae,af,ag,ah,ai,aj,ak,al⟩:=cells4 a.out)|((with_reducible refine gate_callee (f:=37) rfl ?_);refine sC (some 14) Try.func37 #[.slice A0 l0.length c0,.agg #[.int .i64 a1_0,.int .i64 a1_1,.string a1_2,.slice A1_3 l1_3.length c1_3]] (impl_referred.calls k (fun j=>j<w.heap.size) _ _ l0 a1_0 a1_1 a1_2 _ _ l1_3 A K _ ?side1 ?side2 ?side3 M.out) ?_;(case side1=>exact Kd.V_mk v.out (Kd.F_below (Kd.C_F k52_heap u.out) zzR));(case side2=>exact sD (zC m.out HB.out));(case side3=>exact n.out);rintro e am ⟨R,rfl,z,hb⟩;refine⟨_,rfl,?_⟩;have b:=zM (Kd.N_lower (Kd.N_mono (ok':=fun j=>j≠q) z (fun j F=>Or.elim F (fun G=>fun I=>Nat.not_le.2 G (by rw[I];exact D.out)) (fun J=>(Kd.freshB (g:=q) (o:= .cells #[.int .i64 a1_0,.int .i64 a1_1,.string a1_2,.slice A1_3 l1_3.length c1_3] 36 (0,0)) (sT a.out) j J)))) (below_size zzR));have c:=sK a hb;have d:=sB HB hb;clear a;clear HB;have i:=b;have a:=c;have HB:=d;clear b c d;(try clear hb);(try clear z);obtain⟨an,ao,ap,aq,ar,au,av,aw⟩:=cells4 a.out)|((with_reducible refine gate_callee (f:=38) rfl ?_);refine sC (some 18) Try.func38 #[.agg #[.int .i64 a1_0,.int .i64 a1_1,.string a1_2,.slice A1_3 l1_3.length c1_3]] (impl_Pattern_isPlainKind.calls k a1_0 a1_1 a1_2 _ _ l1_3 true _ ?side1 ?side2 O.out) ?_;(case side1=>exact sD (zC m.out HB.out));(case side2=>exact n.out);rintro e ax ⟨rfl,hb⟩;refine⟨_,rfl,?_⟩;have b:=zM (Kd.N_below (by(with_reducible repeat(first|apply Kd.N_alloc|apply Kd.N_drewN|apply Kd.N_drew));exact i.out) hb);have c:=sK a hb;have d:=sB HB hb;clear i;clear a;clear HB;have i:=b;have a:=c;have HB:=d;clear b c d;(try clear hb);obtain⟨ay,az,S⟩:=Kd.N_slice i.out;subst S)|(go_at_call 39;(with_reducible refine(impl_Pattern__impl_Pattern_isPlainKind.calls k _ _ A y _ ?side1 ?side2 Q.out).mono ?_);(case side1=>exact sD ((Kd.N_reads' i.out).2.2));(case side2=>exact(Kd.N_reads' i.out).2.1);rintro e aA ⟨rfl,hb⟩;have b:=zM (Kd.N_below (by(with_reducible repeat(first|apply Kd.N_alloc|apply Kd.N_drewN|apply Kd.N_drew));exact i.out) hb);have c:=sK a hb;have d:=sB HB hb;clear i;clear a;clear HB;have i:=b;have a:=c;have HB:=d;clear b c d;(try clear hb)))
 go_ret
 exact⟨sq,sb⟩)
 replace B:=zB B
 subst B
 rewrite[if_neg zQ]at H
 obtain rfl:=zI H
 go_enter Try.func15,Try.ntmps15
 go_wp2_with (first|((with_reducible refine gate_dst (N:=3) rfl ?_);refine sV (N:=3) (cs:= #[.int .i64 a1_0,.int .i64 a1_1,.string a1_2,.slice A1_3 l1_3.length c1_3]) (t:=36) ?_;intro q hg aB hbox hb;have a:=zM (hbox);have D:=sG HB hg;have s:=sG HB hg;replace HB:=sB HB hb;clear hb hbox hg;obtain⟨aC,aD,aE,aF,aG,aH,aI,aJ⟩:=cells4 a.out)|((with_reducible refine gate_callee (f:=36) rfl ?_);refine sC (some 9) Try.func36 #[.slice A0 l0.length c0,.agg #[.int .i64 a1_0,.int .i64 a1_1,.string a1_2,.slice A1_3 l1_3.length c1_3]] (impl_checkReferred.calls k _ _ l0 a1_0 a1_1 a1_2 _ _ l1_3 l _ ?side1 ?side2 ?side3 ?side4 E.out) ?_;(case side1=>exact sD (zC u.out HB.out));(case side2=>exact v.out);(case side3=>exact sD (zC m.out HB.out));(case side4=>exact n.out);rintro e aK ⟨rfl,hb⟩;refine⟨_,rfl,?_⟩;replace a:=sK a hb;replace HB:=sB HB hb;(try clear hb);obtain⟨aL,aM,aN,aO,aP,aQ,aR,aS⟩:=cells4 a.out)|((with_reducible refine gate_callee (f:=37) rfl ?_);refine sC (some 14) Try.func37 #[.slice A0 l0.length c0,.agg #[.int .i64 a1_0,.int .i64 a1_1,.string a1_2,.slice A1_3 l1_3.length c1_3]] (impl_referred.calls k (fun j=>j<w.heap.size) _ _ l0 a1_0 a1_1 a1_2 _ _ l1_3 A K _ ?side1 ?side2 ?side3 M.out) ?_;(case side1=>exact Kd.V_mk v.out (Kd.F_below (Kd.C_F k52_heap u.out) zzR));(case side2=>exact sD (zC m.out HB.out));(case side3=>exact n.out);rintro e aT ⟨R,rfl,z,hb⟩;refine⟨_,rfl,?_⟩;have b:=zM (Kd.N_lower (Kd.N_mono (ok':=fun j=>j≠q) z (fun j F=>Or.elim F (fun G=>fun I=>Nat.not_le.2 G (by rw[I];exact D.out)) (fun J=>(Kd.freshB (g:=q) (o:= .cells #[.int .i64 a1_0,.int .i64 a1_1,.string a1_2,.slice A1_3 l1_3.length c1_3] 36 (0,0)) (sT a.out) j J)))) (below_size zzR));have c:=sK a hb;have d:=sB HB hb;clear a;clear HB;have i:=b;have a:=c;have HB:=d;clear b c d;(try clear hb);(try clear z);obtain⟨aU,aV,aW,aX,aY,aZ,a2,a3⟩:=cells4 a.out)|((with_reducible refine gate_callee (f:=38) rfl ?_);refine sC (some 18) Try.func38 #[.agg #[.int .i64 a1_0,.int .i64 a1_1,.string a1_2,.slice A1_3 l1_3.length c1_3]] (impl_Pattern_isPlainKind.calls k a1_0 a1_1 a1_2 _ _ l1_3 false _ ?side1 ?side2 O.out) ?_;(case side1=>exact sD (zC m.out HB.out));(case side2=>exact n.out);rintro e a4 ⟨rfl,hb⟩;refine⟨_,rfl,?_⟩;have b:=zM (Kd.N_below (by(with_reducible repeat(first|apply Kd.N_alloc|apply Kd.N_drewN|apply Kd.N_drew));exact i.out) hb);have c:=sK a hb;have d:=sB HB hb;clear i;clear a;clear HB;have i:=b;have a:=c;have HB:=d;clear b c d;(try clear hb)))
 go_ret
 exact⟨sq,sb⟩)
 rw[if_neg p]at H
 have c4b0:(l==0)=false:=zN p
 have c4b1:(l !=0)=true:=zX p
 obtain rfl:=zI H
 go_enter Try.func15,Try.ntmps15
 go_wp2_with (first|((with_reducible refine gate_dst (N:=3) rfl ?_);refine sV (N:=3) (cs:= #[.int .i64 a1_0,.int .i64 a1_1,.string a1_2,.slice A1_3 l1_3.length c1_3]) (t:=36) ?_;intro q hg a5 hbox hb;have a:=zM (hbox);have D:=sG HB hg;have s:=sG HB hg;replace HB:=sB HB hb;clear hb hbox hg;obtain⟨a6,a7,a8,a9,ba,bb,bc,bd⟩:=cells4 a.out)|((with_reducible refine gate_callee (f:=36) rfl ?_);refine sC (some 9) Try.func36 #[.slice A0 l0.length c0,.agg #[.int .i64 a1_0,.int .i64 a1_1,.string a1_2,.slice A1_3 l1_3.length c1_3]] (impl_checkReferred.calls k _ _ l0 a1_0 a1_1 a1_2 _ _ l1_3 l _ ?side1 ?side2 ?side3 ?side4 E.out) ?_;(case side1=>exact sD (zC u.out HB.out));(case side2=>exact v.out);(case side3=>exact sD (zC m.out HB.out));(case side4=>exact n.out);rintro e be ⟨rfl,hb⟩;refine⟨_,rfl,?_⟩;replace a:=sK a hb;replace HB:=sB HB hb;(try clear hb)))
 go_ret
 exact⟨sq,sb⟩
end Go.Proofs.Ytdihlgkcpooadaa.PFnExactIsPure
