/- Printed functions: laws_toPattern, laws_toNamed. -/
import Derived.Test.YtdihlgkcpooadaaYIpP0
namespace Go.Proofs.Ytdihlgkcpooadaa.PFnExactIsPure
open Go.RowKit Go.Proofs.YtdihlgkcpooadaaG Go.Proofs.YtdihlgkcpooadaaW.PrintWords Go.Proofs.YtdihlgkcpooadaaW.PrintLast Go.Proofs.YtdihlgkcpooadaaW.PrintMore
attribute [local go_sem] max2_int min2_int max_two min_two max_three min_three max_four min_four
set_option linter.unusedVariables false
set_option linter.unusedSimpArgs false
mutual
def laws_toPattern.f : Nat → Int → Int → ByteArray → List (S31) → Option (Int × Int × ByteArray × (List (S36)))
  |0,_,_,_,_=>none
  |k+1,a0_0,a0_1,a0_2,l0_3=>(laws_toPatternS.f k l0_3).bind fun t112=>(some (a0_0,a0_1,a0_2,t112))
def laws_toPatternS.l0 : Nat → List (S31) → List (S36) → Int → Option ((List (S36)))
  |0,_,_,_=>none
  |k+1,x0,x3,x4=>if x4<(x0.length:Int)then(if 0≤x4 then((laws_toPattern.f k ((rd_T31 x0 x4).f0) ((rd_T31 x0 x4).f1) ((rd_T31 x0 x4).f2) ((rd_T31 x0 x4).f3)).bind fun bt119=>(if x4<(x3.length:Int)then(laws_toPatternS.l0 k x0 (x3.set (x4:Int).toNat (⟨bt119.1,bt119.2.1,bt119.2.2.1,bt119.2.2.2⟩:S36)) (wrap64 (x4+1)))else(none)))else(none))else(some x3)
def laws_toPatternS.f : Nat → List (S31) → Option ((List (S36)))
  |0,_=>none
  |k+1,l0=>if 0≤(l0.length:Int)then(if((l0.length:Int):Int).toNat≤5026338869833 then(laws_toPatternS.l0 k l0 (List.replicate ((l0.length:Int):Int).toNat z36) 0)else(none))else(none)
end
theorem laws_toPattern.mono_scc : ∀ k, (∀ a b c n, LeO (laws_toPattern.f k a b c n) (laws_toPattern.f (k + 1) a b c n)) ∧ (∀ a, LeO (laws_toPatternS.f k a) (laws_toPatternS.f (k + 1) a)) ∧ (∀ a b c, LeO (laws_toPatternS.l0 k a b c) (laws_toPatternS.l0 (k + 1) a b c))
  |0=>⟨fun _ _ _ _ r h=>by simp[laws_toPattern.f]at h,fun _ r h=>by simp[laws_toPatternS.f]at h,fun _ _ _ r h=>by simp[laws_toPatternS.l0]at h⟩
  |k+1=>by
    obtain⟨d,i,l⟩:=laws_toPattern.mono_scc k
    refine⟨?_,?_,?_⟩
    · intro a b c n
      unfold laws_toPattern.f
      repeat' first
      |(with_reducible exact d _ _ _ _)
      |(with_reducible exact i _)
      |(with_reducible exact l _ _ _)
      |(with_reducible exact LeO.refl _)
      |(with_reducible exact LeO.none _)
      |(with_reducible refine LeO.ite ?_ ?_)
      |(with_reducible refine LeO.bind ?_ (fun _=>?_))
      |exact d _ _ _ _
      |exact i _
      |exact l _ _ _
      |exact LeO.none _
      |refine LeO.ite ?_ ?_
      |refine LeO.bind ?_ (fun _=>?_)
    · intro a
      unfold laws_toPatternS.f
      repeat' first
      |(with_reducible exact d _ _ _ _)
      |(with_reducible exact i _)
      |(with_reducible exact l _ _ _)
      |(with_reducible exact LeO.refl _)
      |(with_reducible exact LeO.none _)
      |(with_reducible refine LeO.ite ?_ ?_)
      |(with_reducible refine LeO.bind ?_ (fun _=>?_))
      |exact d _ _ _ _
      |exact i _
      |exact l _ _ _
      |exact LeO.none _
      |refine LeO.ite ?_ ?_
      |refine LeO.bind ?_ (fun _=>?_)
    · intro a b c
      unfold laws_toPatternS.l0
      repeat' first
      |(with_reducible exact d _ _ _ _)
      |(with_reducible exact i _)
      |(with_reducible exact l _ _ _)
      |(with_reducible exact LeO.refl _)
      |(with_reducible exact LeO.none _)
      |(with_reducible refine LeO.ite ?_ ?_)
      |(with_reducible refine LeO.bind ?_ (fun _=>?_))
      |exact d _ _ _ _
      |exact i _
      |exact l _ _ _
      |exact LeO.none _
      |refine LeO.ite ?_ ?_
      |refine LeO.bind ?_ (fun _=>?_)
theorem laws_toPattern.mono:∀a b c d k,LeO (laws_toPattern.f k a b c d) (laws_toPattern.f (k+1) a b c d):=fun a b c d k=>(laws_toPattern.mono_scc k).1 a b c d
theorem laws_toPatternS.mono:∀a k,LeO (laws_toPatternS.f k a) (laws_toPatternS.f (k+1) a):=fun a k=>(laws_toPattern.mono_scc k).2.1 a
set_option maxHeartbeats 8000000 in
set_option maxRecDepth 100000 in
theorem laws_toPattern.step (k:Nat) (ih_laws_toPattern:∀m,m<k+1→∀(a0_0:Int) (a0_1:Int) (a0_2:ByteArray) (A0_3:Option Addr) (c0_3:Nat) (l0_3:List (S31)) (r1:Int) (r2:Int) (r3:ByteArray) (r4:List (S36)) (w:World) (hr0_3:Kd.C k31 w A0_3 l0_3.length l0_3) (hc0_3:l0_3.length≤c0_3) (h:laws_toPattern.f m a0_0 a0_1 a0_2 l0_3=some (r1,r2,r3,r4)),
    Calls Try.prog 14 #[.agg #[.int .i64 a0_0,.int .i64 a0_1,.string a0_2,.slice A0_3 l0_3.length c0_3]] w fun e w'=>∃i:Value,e= .returned (.agg #[.int .i64 r1,.int .i64 r2,.string r3,i])∧Kd.R k36 36 w' w.heap.size (fun _=>True) i r4∧Below w.heap.size w w') (ih_laws_toPatternS:∀m,m<k+1→∀(A0:Option Addr) (c0:Nat) (l0:List (S31)) (r:List (S36)) (w:World) (hr0:Kd.C k31 w A0 l0.length l0) (hc0:l0.length≤c0) (h:laws_toPatternS.f m l0=some r),
    Calls Try.prog 35 #[.slice A0 l0.length c0] w fun e w'=>∃x:Value,e= .returned (x)∧Kd.R k36 36 w' w.heap.size (fun _=>True) x r∧Below w.heap.size w w'):∀(a0_0:Int) (a0_1:Int) (a0_2:ByteArray) (A0_3:Option Addr) (c0_3:Nat) (l0_3:List (S31)) (r1:Int) (r2:Int) (r3:ByteArray) (r4:List (S36)) (w:World) (hr0_3:Kd.C k31 w A0_3 l0_3.length l0_3) (hc0_3:l0_3.length≤c0_3) (h:laws_toPattern.f (k+1) a0_0 a0_1 a0_2 l0_3=some (r1,r2,r3,r4)),
    Calls Try.prog 14 #[.agg #[.int .i64 a0_0,.int .i64 a0_1,.string a0_2,.slice A0_3 l0_3.length c0_3]] w fun e w'=>∃i:Value,e= .returned (.agg #[.int .i64 r1,.int .i64 r2,.string r3,i])∧Kd.R k36 36 w' w.heap.size (fun _=>True) i r4∧Below w.heap.size w w':=by
 intro a0_0 a0_1 a0_2 A0_3 c0_3 l0_3 r1 r2 r3 r4 w hr0_3 hc0_3 h
 simp only[laws_toPattern.f]at h
 have X:=Try.underlying31
 have Y:=Try.underlying36
 have M:=zM hr0_3
 have O:=zM hc0_3
 clear hr0_3 hc0_3
 have HB:=zM (Below.refl w.heap.size w)
 have H:((laws_toPatternS.f k l0_3).bind fun l=>(some (a0_0,a0_1,a0_2,l)))=some (r1,r2,r3,r4):=h
 clear h
 obtain⟨l,P,H⟩:=sO H
 simp only[Option.some.injEq,Prod.mk.injEq]at H
 obtain⟨rfl,rfl,rfl,rfl⟩:=H
 go_enter Try.func14,Try.ntmps14
 go_wp2_with (first|((with_reducible refine gate_dst (N:=1) rfl ?_);refine sV (N:=1) (cs:= #[.int .i64 a0_0,.int .i64 a0_1,.string a0_2,.slice A0_3 l0_3.length c0_3]) (t:=31) ?_;intro Q hg Z hbox hb;have a:=zM (hbox);have aa:=sG HB hg;have y:=sG HB hg;replace HB:=sB HB hb;clear hb hbox hg)|((with_reducible refine gate_dst (N:=2) rfl ?_);refine sV (N:=2) (cs:= #[.int .i64 0,.int .i64 0,.string (⟨#[]⟩:ByteArray),.slice none 0 0]) (t:=36) ?_;intro n hg w4 hbox hb;have b:=zM (hbox);have ab:=sG HB hg;have z:=sG HB hg;replace HB:=sB HB hb;have S:=sN a hg;have T:=sM a hg;replace a:=sK a hb;clear hb hbox hg)|((with_reducible refine gate_dst (N:=3) rfl ?_);refine sV (N:=3) (cs:= #[.int .i64 0,.int .i64 0,.string (⟨#[]⟩:ByteArray),.slice none 0 0]) (t:=36) ?_;intro q hg w5 hbox hb;have d:=zM (hbox);have ac:=sG HB hg;have A:=sG HB hg;replace HB:=sB HB hb;have s:=sN a hg;have U:=sM a hg;replace a:=sK a hb;have c:=sN b hg;have V:=sM b hg;replace b:=sK b hb;clear hb hbox hg;have ad:=S.out;have ae:=T.out;have af:=s.out;have ag:=U.out;obtain⟨ah,ai,aj,ak,al,am,an,ao⟩:=cells4 a.out;have ap:=V.out;have aq:=c.out;obtain⟨ar,au,av,aw,ax,ay,az,aA⟩:=cells4 d.out)|((with_reducible refine gate_callee (f:=35) rfl ?_);refine sC (some 15) Try.func35 #[.slice A0_3 l0_3.length c0_3] (ih_laws_toPatternS k (by omega) _ _ l0_3 l _ ?side1 ?side2 P.out) ?_;(case side1=>exact zC M.out zzR);(case side2=>exact O.out);rintro e aB ⟨aC,rfl,B,hb⟩;refine⟨_,rfl,?_⟩;have D:=zM (Kd.R_lower (Kd.R_newB (Kd.R_newB B (g:=n) (o:= .cells #[.int .i64 0,.int .i64 0,.string (⟨#[]⟩:ByteArray),.slice none 0 0] 36 (0,0)) (by(with_reducible repeat(first|refine blk_drewN ?_ _|refine blk_drew ?_|refine blk_alloc ?_ _));refine blk_far ?_ c.out _;(with_reducible repeat(first|refine blk_drewN ?_ _|refine blk_drew ?_|refine blk_alloc ?_ _));refine blk_far ?_ c.out _;(with_reducible repeat(first|refine blk_drewN ?_ _|refine blk_drew ?_|refine blk_alloc ?_ _));refine blk_far ?_ c.out _;exact sT b.out)) (g:=q) (o:= .cells #[.int .i64 a0_0,.int .i64 a0_1,.string a0_2,.slice none 0 0] 36 (0,0)) (by(with_reducible repeat(first|refine blk_drewN ?_ _|refine blk_drew ?_|refine blk_alloc ?_ _));refine blk_put (cs:= #[.int .i64 a0_0,.int .i64 a0_1,.string (⟨#[]⟩:ByteArray),.slice none 0 0]) ?_ 2 _ rfl;(with_reducible repeat(first|refine blk_drewN ?_ _|refine blk_drew ?_|refine blk_alloc ?_ _));refine blk_put (cs:= #[.int .i64 a0_0,.int .i64 0,.string (⟨#[]⟩:ByteArray),.slice none 0 0]) ?_ 1 _ rfl;(with_reducible repeat(first|refine blk_drewN ?_ _|refine blk_drew ?_|refine blk_alloc ?_ _));refine blk_put (cs:= #[.int .i64 0,.int .i64 0,.string (⟨#[]⟩:ByteArray),.slice none 0 0]) ?_ 0 _ rfl;exact sT d.out)) (below_size zzR));have E:=zM (blk_below (g:=Q) (o:= .cells #[.int .i64 a0_0,.int .i64 a0_1,.string a0_2,.slice A0_3 l0_3.length c0_3] 31 (0,0)) (by(with_reducible repeat(first|refine blk_drewN ?_ _|refine blk_drew ?_|refine blk_alloc ?_ _));refine blk_far ?_ s.out _;(with_reducible repeat(first|refine blk_drewN ?_ _|refine blk_drew ?_|refine blk_alloc ?_ _));refine blk_far ?_ s.out _;(with_reducible repeat(first|refine blk_drewN ?_ _|refine blk_drew ?_|refine blk_alloc ?_ _));refine blk_far ?_ s.out _;exact sT a.out) hb);have F:=zM (blk_below (g:=n) (o:= .cells #[.int .i64 0,.int .i64 0,.string (⟨#[]⟩:ByteArray),.slice none 0 0] 36 (0,0)) (by(with_reducible repeat(first|refine blk_drewN ?_ _|refine blk_drew ?_|refine blk_alloc ?_ _));refine blk_far ?_ c.out _;(with_reducible repeat(first|refine blk_drewN ?_ _|refine blk_drew ?_|refine blk_alloc ?_ _));refine blk_far ?_ c.out _;(with_reducible repeat(first|refine blk_drewN ?_ _|refine blk_drew ?_|refine blk_alloc ?_ _));refine blk_far ?_ c.out _;exact sT b.out) hb);have G:=zM (blk_below (g:=q) (o:= .cells #[.int .i64 a0_0,.int .i64 a0_1,.string a0_2,.slice none 0 0] 36 (0,0)) (by(with_reducible repeat(first|refine blk_drewN ?_ _|refine blk_drew ?_|refine blk_alloc ?_ _));refine blk_put (cs:= #[.int .i64 a0_0,.int .i64 a0_1,.string (⟨#[]⟩:ByteArray),.slice none 0 0]) ?_ 2 _ rfl;(with_reducible repeat(first|refine blk_drewN ?_ _|refine blk_drew ?_|refine blk_alloc ?_ _));refine blk_put (cs:= #[.int .i64 a0_0,.int .i64 0,.string (⟨#[]⟩:ByteArray),.slice none 0 0]) ?_ 1 _ rfl;(with_reducible repeat(first|refine blk_drewN ?_ _|refine blk_drew ?_|refine blk_alloc ?_ _));refine blk_put (cs:= #[.int .i64 0,.int .i64 0,.string (⟨#[]⟩:ByteArray),.slice none 0 0]) ?_ 0 _ rfl;exact sT d.out) hb);have I:=sB HB hb;clear a;clear b;clear d;clear HB;have J:=D;have a:=E;have b:=F;have d:=G;have HB:=I;clear D E F G I;(try clear hb);(try clear B);obtain⟨K,L,W⟩:=Kd.R_slice J.out;subst W;obtain⟨aD,aE,aF,aG,aH,aI,aJ,aK⟩:=cells4 d.out;obtain⟨aL,aM,aN,aO,aP,aQ,aR,aS⟩:=cells4 b.out))
 refine bodyPost_ret (results_cell_row rfl _ _ n 36 #[.int .i64 a0_0,.int .i64 a0_1,.string a0_2,.slice K l.length L] (0,0) _ rfl (by(with_reducible repeat(first|refine blk_drewN ?_ _|refine blk_drew ?_|refine blk_alloc ?_ _));refine blk_put (cs:= #[.int .i64 a0_0,.int .i64 a0_1,.string a0_2,.slice none 0 0]) ?_ 3 _ rfl;(with_reducible repeat(first|refine blk_drewN ?_ _|refine blk_drew ?_|refine blk_alloc ?_ _));refine blk_put (cs:= #[.int .i64 a0_0,.int .i64 a0_1,.string (⟨#[]⟩:ByteArray),.slice none 0 0]) ?_ 2 _ rfl;(with_reducible repeat(first|refine blk_drewN ?_ _|refine blk_drew ?_|refine blk_alloc ?_ _));refine blk_put (cs:= #[.int .i64 a0_0,.int .i64 0,.string (⟨#[]⟩:ByteArray),.slice none 0 0]) ?_ 1 _ rfl;(with_reducible repeat(first|refine blk_drewN ?_ _|refine blk_drew ?_|refine blk_alloc ?_ _));refine blk_put (cs:= #[.int .i64 0,.int .i64 0,.string (⟨#[]⟩:ByteArray),.slice none 0 0]) ?_ 0 _ rfl;(with_reducible repeat(first|refine blk_drewN ?_ _|refine blk_drew ?_|refine blk_alloc ?_ _));refine blk_far ?_ c.out _;exact sT b.out) Try.underlying36 rfl (by kernel_rfl)) rfl ?_
 exact⟨_,sq,by(with_reducible repeat(first|apply Kd.R_alloc|apply Kd.R_drewN|apply Kd.R_drew));exact Kd.R_mono (sRF4 (g:=n) (Kd.R_far (p:=⟨q,3,none⟩) (Kd.R_mono (Kd.R_mono J.out (fun u hk=>(⟨hk,hk.2⟩:_∧u≠q))) (fun u hk=>(⟨hk,hk.1.1.2⟩:_∧u≠n))) (fun _ hk=>hk.1.2) (.slice K l.length L)) (fun _ hk=>hk.2)) (fun _ hk=>trivial),sb⟩
set_option maxHeartbeats 8000000 in
set_option maxRecDepth 100000 in
theorem laws_toPatternS.step (k:Nat) (ih_laws_toPattern:∀m,m<k+1→∀(a0_0:Int) (a0_1:Int) (a0_2:ByteArray) (A0_3:Option Addr) (c0_3:Nat) (l0_3:List (S31)) (r1:Int) (r2:Int) (r3:ByteArray) (r4:List (S36)) (w:World) (hr0_3:Kd.C k31 w A0_3 l0_3.length l0_3) (hc0_3:l0_3.length≤c0_3) (h:laws_toPattern.f m a0_0 a0_1 a0_2 l0_3=some (r1,r2,r3,r4)),
    Calls Try.prog 14 #[.agg #[.int .i64 a0_0,.int .i64 a0_1,.string a0_2,.slice A0_3 l0_3.length c0_3]] w fun e w'=>∃ac:Value,e= .returned (.agg #[.int .i64 r1,.int .i64 r2,.string r3,ac])∧Kd.R k36 36 w' w.heap.size (fun _=>True) ac r4∧Below w.heap.size w w') (ih_laws_toPatternS:∀m,m<k+1→∀(A0:Option Addr) (c0:Nat) (l0:List (S31)) (r:List (S36)) (w:World) (hr0:Kd.C k31 w A0 l0.length l0) (hc0:l0.length≤c0) (h:laws_toPatternS.f m l0=some r),
    Calls Try.prog 35 #[.slice A0 l0.length c0] w fun e w'=>∃A:Value,e= .returned (A)∧Kd.R k36 36 w' w.heap.size (fun _=>True) A r∧Below w.heap.size w w'):∀(A0:Option Addr) (c0:Nat) (l0:List (S31)) (r:List (S36)) (w:World) (hr0:Kd.C k31 w A0 l0.length l0) (hc0:l0.length≤c0) (h:laws_toPatternS.f (k+1) l0=some r),
    Calls Try.prog 35 #[.slice A0 l0.length c0] w fun e w'=>∃A:Value,e= .returned (A)∧Kd.R k36 36 w' w.heap.size (fun _=>True) A r∧Below w.heap.size w w':=by
 intro A0 c0 l0 r w hr0 hc0 h
 simp only[laws_toPatternS.f]at h
 have aX:=Try.underlying31
 have aY:=Try.underlying36
 have ay:=zM hr0
 have aZ:=zM hc0
 clear hr0 hc0
 have HB:=zM (Below.refl w.heap.size w)
 have H:(if 0≤(l0.length:Int)then(if((l0.length:Int):Int).toNat≤5026338869833 then(laws_toPatternS.l0 k l0 (List.replicate ((l0.length:Int):Int).toNat z36) 0)else(none))else(none))=some r:=h
 clear h
 by_cases u:0≤(l0.length:Int)
 ·(
 rw[if_pos u]at H
 have c2b0:=eq_true u
 have c2b1:=zT u
 clear u
 by_cases x:((l0.length:Int):Int).toNat≤5026338869833
 ·(
 rw[if_pos x]at H
 have c3b0:=eq_true x
 have c3b1:=zT x
 clear x
 obtain⟨y115,hy115⟩:∃O:List (S36),O=(List.replicate ((l0.length:Int):Int).toNat z36):=⟨_,rfl⟩
 replace H:(laws_toPatternS.l0 k l0 y115 0)=some r:=by first|(rw[hy115];with_reducible exact H)|(have l:=(Option.bind_some _ _).symm.trans H;rw[hy115];with_reducible exact l)|(have l:=(Option.bind_some _ _).symm.trans H;with_reducible exact l)|with_reducible exact H|(rw[hy115];exact H)|exact H
 have ad:=zM hy115
 clear hy115
 have H':=zM H
 clear H
 go_enter Try.func35,Try.ntmps35
 go_wp2_with (first|((with_reducible refine gate_dst (N:=7) rfl ?_);refine Kd.R_make k36 _ 36 rfl (N:=7) rfl 34 _ _ rfl (l0.length:Int) rfl rfl Try.underlying34 (.agg #[(.int .i64 0),(.int .i64 0),(.string ⟨#[]⟩),(.slice none 0 0)]) 56 info36 rfl (by decide) (by omega) z36 (ok:=fun _=>True) (okp:=fun _=>True) (k36_mkM _ _ _ z36 (Kd.R_nil _ _ _ _ _)) (fun _ hk=>hk) trivial (zzA) (Nat.le_trans (Nat.mul_le_mul_right _ (zzA:(l0.length:Int).toNat≤5026338869833)) (by omega)) (Below.refl _ _) (Nat.le_refl _) ?_;intro az w4 B hb aA aB;clear aA aB;(first|rw[←ad.out]at B|(simp only[Int.reduceToNat]at B;rw[←ad.out]at B));have aC:=zM (Kd.R_lower B (below_size (sH HB.out)));replace HB:=sB HB hb;clear hb B))
 go_loopg [4] k (fun kq v4 w'=>∃(b:List (S36)) (a:Int),v4= .int .i64 a∧Aside0 (laws_toPatternS.l0 kq l0 b a=some r)∧Aside0 (kq≤k)∧Aside0 (Kd.R k36 36 w' w.heap.size (fun _=>True) az b)∧Aside0 (Below w.heap.size w w'))
 case atStart=>exact⟨(y115),(0),sr,H',⟨Nat.le_refl _⟩,⟨by exact sE aC.out⟩,⟨sb⟩⟩
 case round=>(
 clear H'
 try clear u
 try clear c2b0
 try clear c2b1
 try clear x
 try clear c3b0
 try clear c3b1
 obtain⟨b,a,rfl,HA,P,c,HB⟩:=hrel
 cases gk with
 |zero=>exact absurd HA.out (by simp[laws_toPatternS.l0])
 |succ k1=>(
 have H:=HA.out
 clear HA
 simp only[laws_toPatternS.l0]at H
 by_cases y:a<(l0.length:Int)
 ·(
 rw[if_pos y]at H
 have c6b0:=zT y
 clear y
 by_cases J:0≤a
 ·(
 rw[if_pos J]at H
 have c7b0:=zT J
 clear J
 replace H:=Option.bind_eq_some_iff.mp H
 obtain⟨⟨n,q,s,D⟩,ae,H⟩:=H
 replace H:(if a<(b.length:Int)then(laws_toPatternS.l0 k1 l0 (b.set (a:Int).toNat (⟨n,q,s,D⟩:S36)) (wrap64 (a+1)))else(none))=some r:=H
 have A8:=zM ae
 clear ae
 by_cases K:a<(b.length:Int)
 ·(
 rw[if_pos K]at H
 have c9b0:=zT K
 clear K
 obtain⟨y125,hy125⟩:∃O:List (S36),O=(b.set (a:Int).toNat (⟨n,q,s,D⟩:S36)):=⟨_,rfl⟩
 replace H:(laws_toPatternS.l0 k1 l0 y125 (wrap64 (a+1)))=some r:=by first|(rw[hy125];with_reducible exact H)|(have l:=(Option.bind_some _ _).symm.trans H;rw[hy125];with_reducible exact l)|(have l:=(Option.bind_some _ _).symm.trans H;with_reducible exact l)|with_reducible exact H|(rw[hy125];exact H)|exact H
 have aD:=zM hy125
 clear hy125
 have H':=zM H
 clear H
 have Q:0≤(a:Int):=zzA
 have S:a<(l0.length:Int):=zzA
 obtain⟨a4,aE,aF,aG,af,ag,ah,ai,aj,ak⟩:=at_T31 ay.out a Q S
 cases aG
 replace af:=sX HB af
 replace ag:=sX HB ag
 replace ah:=sX HB ah
 replace ai:=sX HB ai
 have aH:=zM ak
 have aI:=zM aj
 clear ak aj
 replace Q:=eq_true Q
 replace S:=eq_true S
 go_wp2_with (first|((with_reducible refine gate_callee (f:=14) rfl ?_);refine goesL_ (some 20) rfl rfl Try.func14 (by kernel_rfl) rfl #[.agg #[.int .i64 ((rd_T31 l0 a).f0),.int .i64 ((rd_T31 l0 a).f1),.string ((rd_T31 l0 a).f2),.slice aE ((rd_T31 l0 a).f3).length aF]] rfl (by(try simp only[List.map_toArray,List.map_cons,List.map_nil]);first|done|rfl|(simp only[List.length_drop,List.length_take];rfl)) ?_;(with_reducible refine(ih_laws_toPattern k1 (by have:=P.out;omega) ((rd_T31 l0 a).f0) ((rd_T31 l0 a).f1) ((rd_T31 l0 a).f2) _ _ ((rd_T31 l0 a).f3) n q s D _ ?side1 ?side2 A8.out).mono ?_);(case side1=>exact sD (zC aH.out HB.out));(case side2=>exact aI.out);rintro e i ⟨T,rfl,U,hb⟩;refine⟨_,rfl,?_⟩;have V:=zM (Kd.R_lower (Kd.R_new' U (Kd.R_lt (sE c.out))) (below_size (sH HB.out)));replace c:=zM (Kd.R_elder' (sE c.out) (Kd.R_base U) hb);replace HB:=sB HB hb;(try clear hb);(try clear U);have W:0≤(a:Int):=zzA;have X:(a:Int)<((b.length:Int):Int):=zzA;obtain⟨d,al,am,an,aJ,a5,ao⟩:=Kd.R_form c.out (by omega);(first|cases am|(injection am with L aK aL;(first|subst L|(injection L with L;subst L));subst aL;clear aK));have M:=zM an;have a6:=zM ao;clear an aJ ao;obtain⟨a7,aM,ap,E,F⟩:=Kd.R_elem c.out z36 (a:Int) W X;obtain⟨aN,rfl,a8⟩:=k36_openM ap;have a9:i.cell? ⟨d,(a:Int).toNat*4,none⟩=some (.int .i64 ((rd_T36 b a).f0)):=E 0 _ rfl;have ba:i.cell? ⟨d,(a:Int).toNat*4+1,none⟩=some (.int .i64 ((rd_T36 b a).f1)):=E 1 _ rfl;have bb:i.cell? ⟨d,(a:Int).toNat*4+2,none⟩=some (.string ((rd_T36 b a).f2)):=E 2 _ rfl;have bc:i.cell? ⟨d,(a:Int).toNat*4+3,none⟩=some (aN):=E 3 _ rfl;have bd:i.frozen? ⟨d,(a:Int).toNat*4,none⟩=false:=F 0;have be:i.frozen? ⟨d,(a:Int).toNat*4+1,none⟩=false:=F 1;have bf:i.frozen? ⟨d,(a:Int).toNat*4+2,none⟩=false:=F 2;have bg:i.frozen? ⟨d,(a:Int).toNat*4+3,none⟩=false:=F 3;clear aM E F ap;replace W:=eq_true W;replace X:=eq_true X;have n_:=zM (Kd.R_mono (ok':=(fun Y=>some Y≠(T:Value).ownBlock)) c.out (fun Y hk=>hk.2));clear c;have c:=n_;clear n_;have aq:=zM (show Kd.R k36 36 i w.heap.size (fun _=>True) (.slice (some ⟨d,0,none⟩) b.length al) b from(by(with_reducible repeat(first|apply Kd.R_alloc|apply Kd.R_drewN|apply Kd.R_drew));exact Kd.R_mono c.out (fun _ hk=>trivial)));obtain⟨bh,ar,au,z,G⟩:=Kd.R_elem aq.out z36 (a:Int) (zzA) (by have I:(a:Int)<((b.length:Int):Int):=zzA;first|exact I|(have Z:=(Kd.R_reads' c.out).1;omega)|simpa using I);obtain⟨bi,rfl,bj⟩:=k36_openM au;have aa:=Kd.R_seg aq.out (a:Int) (zzA) (by have I:(a:Int)<((b.length:Int):Int):=zzA;first|exact I|(have Z:=(Kd.R_reads' c.out).1;omega)|simpa using I) (seg:=[.int .i64 n,.int .i64 q,.string s,T]) (j:=0) ar z (show 4≤4 from by decide) (x':=(⟨n,q,s,D⟩:S36)) (k36_mkM _ _ _ (⟨n,q,s,D⟩:S36) (Kd.R_mono (V.out) (fun Y hk=>⟨trivial,fun Z=>(hk.2) (by rw[Z];rfl)⟩))) (fun _ hk=>hk);have aO:=z 0 _ rfl;(try simp only[show(k36).sz=4 from rfl,Nat.mul_one,Nat.add_zero]at aO);have aP:=G 0;(try simp only[show(k36).sz=4 from rfl,Nat.mul_one,Nat.add_zero]at aP);have aQ:=z 1 _ rfl;(try simp only[show(k36).sz=4 from rfl,Nat.mul_one,Nat.add_zero]at aQ);have aR:=G 1;(try simp only[show(k36).sz=4 from rfl,Nat.mul_one,Nat.add_zero]at aR);have aS:=z 2 _ rfl;(try simp only[show(k36).sz=4 from rfl,Nat.mul_one,Nat.add_zero]at aS);have aT:=G 2;(try simp only[show(k36).sz=4 from rfl,Nat.mul_one,Nat.add_zero]at aT);have aU:=z 3 _ rfl;(try simp only[show(k36).sz=4 from rfl,Nat.mul_one,Nat.add_zero]at aU);have aV:=G 3;(try simp only[show(k36).sz=4 from rfl,Nat.mul_one,Nat.add_zero]at aV);clear ar z G au)|((with_reducible refine gate_store (t:=36) (p:=21) rfl ?_);refine store_event (t:=36) (p:=21) (v:=?vo_w13) (w1:=((((i.setCell ⟨d,(a:Int).toNat*4,none⟩ (.int .i64 n)).setCell ⟨d,(a:Int).toNat*4+1,none⟩ (.int .i64 q)).setCell ⟨d,(a:Int).toNat*4+2,none⟩ (.string s)).setCell ⟨d,(a:Int).toNat*4+3,none⟩ (T))) ?hg ?ho ?hn ?hr ?_;(case ho=>rfl);(case hg=>rfl);(case hn=>rfl);(case hr=>first|(go_simp;done)|(go_simp;rfl)|(obtain⟨_,_,aW⟩:=Kd.R_slice V.out;simp only[aW];first|(go_simp;done)|(go_simp;rfl)));intro ab hw;have hg:i.grownBy ab (some d):=(by rw[hw];exact aa.2);have av:Kd.R k36 36 ab w.heap.size (fun _=>True) (.slice (some ⟨d,0,none⟩) b.length al) y125:=(by rw[hw,aD.out];exact aa.1);clear aa;have aw:=zM (av);have ax:=zM ((by rw[hw];exact below_set (below_set (below_set (below_set (HB.out) M.out) M.out) M.out) M.out:Below w.heap.size w ab));clear c;clear HB;clear V;have c:=aw;have HB:=ax;clear aw ax;clear hg hw av))
 go_roundg k1
 case measure=>have:=P.out;omega
 case rel=>exact⟨(y125),(wrap64 (a+1)),sr,H',⟨by have:=P.out;omega⟩,⟨by exact sE c.out⟩,⟨sb⟩⟩)
 rw[if_neg K]at H
 exact absurd H (by simp))
 rw[if_neg J]at H
 exact absurd H (by simp))
 rw[if_neg y]at H
 have c6b0:=zF y
 clear y
 obtain rfl:=zI H
 go_wp2
 go_ret
 exact⟨_,sq,by exact sE c.out,sb⟩)))
 rw[if_neg x]at H
 exact absurd H (by simp))
 rw[if_neg u]at H
 exact absurd H (by simp)
theorem laws_toPattern.calls_scc (k:Nat):(∀(a0_0:Int) (a0_1:Int) (a0_2:ByteArray) (A0_3:Option Addr) (c0_3:Nat) (l0_3:List (S31)) (r1:Int) (r2:Int) (r3:ByteArray) (r4:List (S36)) (w:World) (hr0_3:Kd.C k31 w A0_3 l0_3.length l0_3) (hc0_3:l0_3.length≤c0_3) (h:laws_toPattern.f k a0_0 a0_1 a0_2 l0_3=some (r1,r2,r3,r4)),
    Calls Try.prog 14 #[.agg #[.int .i64 a0_0,.int .i64 a0_1,.string a0_2,.slice A0_3 l0_3.length c0_3]] w fun e w'=>∃a:Value,e= .returned (.agg #[.int .i64 r1,.int .i64 r2,.string r3,a])∧Kd.R k36 36 w' w.heap.size (fun _=>True) a r4∧Below w.heap.size w w')∧
    (∀(A0:Option Addr) (c0:Nat) (l0:List (S31)) (r:List (S36)) (w:World) (hr0:Kd.C k31 w A0 l0.length l0) (hc0:l0.length≤c0) (h:laws_toPatternS.f k l0=some r),
    Calls Try.prog 35 #[.slice A0 l0.length c0] w fun e w'=>∃b:Value,e= .returned (b)∧Kd.R k36 36 w' w.heap.size (fun _=>True) b r∧Below w.heap.size w w'):=by
 induction k using Nat.strongRecOn with
 |_ k ih=>
 cases k with
 |zero=>exact⟨by intros;rename_i h_;exact absurd h_ (by simp[laws_toPattern.f]),by intros;rename_i h_;exact absurd h_ (by simp[laws_toPatternS.f])⟩
 |succ k=>exact⟨laws_toPattern.step k (fun m hm=>(ih m hm).1) (fun m hm=>(ih m hm).2),laws_toPatternS.step k (fun m hm=>(ih m hm).1) (fun m hm=>(ih m hm).2)⟩
theorem laws_toPattern.calls (k:Nat):∀(a:Int) (a0_1:Int) (a0_2:ByteArray) (A0_3:Option Addr) (c0_3:Nat) (l0_3:List (S31)) (r1:Int) (r2:Int) (r3:ByteArray) (r4:List (S36)) (w:World) (hr0_3:Kd.C k31 w A0_3 l0_3.length l0_3) (hc0_3:l0_3.length≤c0_3) (h:laws_toPattern.f k a a0_1 a0_2 l0_3=some (r1,r2,r3,r4)),
    Calls Try.prog 14 #[.agg #[.int .i64 a,.int .i64 a0_1,.string a0_2,.slice A0_3 l0_3.length c0_3]] w fun e w'=>∃b:Value,e= .returned (.agg #[.int .i64 r1,.int .i64 r2,.string r3,b])∧Kd.R k36 36 w' w.heap.size (fun _=>True) b r4∧Below w.heap.size w w':=(laws_toPattern.calls_scc k).1
theorem laws_toPatternS.calls (k:Nat):∀(a:Option Addr) (c0:Nat) (l0:List (S31)) (r:List (S36)) (w:World) (hr0:Kd.C k31 w a l0.length l0) (hc0:l0.length≤c0) (h:laws_toPatternS.f k l0=some r),
    Calls Try.prog 35 #[.slice a l0.length c0] w fun e w'=>∃b:Value,e= .returned (b)∧Kd.R k36 36 w' w.heap.size (fun _=>True) b r∧Below w.heap.size w w':=(laws_toPattern.calls_scc k).2
def laws_toNamed.f (k:Nat) (a0_0:ByteArray) (a0_1:Int) (a0_2:Int) (a0_3:ByteArray) (l0_4:List (S31)):Option (ByteArray×Int×Int×ByteArray×(List (S36))):=(laws_toPattern.f k a0_1 a0_2 a0_3 l0_4).bind fun bt129=>(some (a0_0,bt129.1,bt129.2.1,bt129.2.2.1,bt129.2.2.2))
set_option maxHeartbeats 8000000 in
set_option maxRecDepth 100000 in
theorem laws_toNamed.calls (k:Nat) (a0_0:ByteArray) (a0_1:Int) (a0_2:Int) (a0_3:ByteArray) (A0_4:Option Addr) (c0_4:Nat) (l0_4:List (S31)) (r1:ByteArray) (r2:Int) (r3:Int) (r4:ByteArray) (r5:List (S36)) (w:World) (hr0_4:Kd.C k31 w A0_4 l0_4.length l0_4) (hc0_4:l0_4.length≤c0_4) (h:laws_toNamed.f k a0_0 a0_1 a0_2 a0_3 l0_4=some (r1,r2,r3,r4,r5)):
  Calls Try.prog 25 #[.agg #[.string a0_0,.int .i64 a0_1,.int .i64 a0_2,.string a0_3,.slice A0_4 l0_4.length c0_4]] w fun e w'=>∃y:Value,e= .returned (.agg #[.string r1,.int .i64 r2,.int .i64 r3,.string r4,y])∧Kd.R k36 36 w' w.heap.size (fun _=>True) y r5∧Below w.heap.size w w':=by
 have aa:=Try.underlying49
 have ab:=Try.underlying52
 have ac:=Try.underlying31
 have ad:=Try.underlying36
 have Q:=zM hr0_4
 have S:=zM hc0_4
 clear hr0_4 hc0_4
 have HB:=zM (Below.refl w.heap.size w)
 have H:((laws_toPattern.f k a0_1 a0_2 a0_3 l0_4).bind fun s=>(some (a0_0,s.1,s.2.1,s.2.2.1,s.2.2.2)))=some (r1,r2,r3,r4,r5):=h
 clear h
 replace H:=Option.bind_eq_some_iff.mp H
 obtain⟨⟨c,d,n,u⟩,z,H⟩:=H
 replace H:(some (a0_0,c,d,n,u))=some (r1,r2,r3,r4,r5):=H
 have T:=zM z
 clear z
 simp only[Option.some.injEq,Prod.mk.injEq]at H
 obtain⟨rfl,rfl,rfl,rfl,rfl⟩:=H
 go_enter Try.func25,Try.ntmps25
 go_wp2_with (first|((with_reducible refine gate_dst (N:=1) rfl ?_);refine sV (N:=1) (cs:= #[.string a0_0,.int .i64 a0_1,.int .i64 a0_2,.string a0_3,.slice A0_4 l0_4.length c0_4]) (t:=49) ?_;intro U hg w3 hbox hb;have a:=zM (hbox);have ae:=sG HB hg;have A:=sG HB hg;replace HB:=sB HB hb;clear hb hbox hg)|((with_reducible refine gate_dst (N:=2) rfl ?_);refine sV (N:=2) (cs:= #[.string (⟨#[]⟩:ByteArray),.int .i64 0,.int .i64 0,.string (⟨#[]⟩:ByteArray),.slice none 0 0]) (t:=52) ?_;intro x hg w4 hbox hb;have b:=zM (hbox);have af:=sG HB hg;have B:=sG HB hg;replace HB:=sB HB hb;have V:=sN a hg;have W:=sM a hg;replace a:=sK a hb;clear hb hbox hg)|((with_reducible refine gate_dst (N:=3) rfl ?_);refine sV (N:=3) (cs:= #[.string (⟨#[]⟩:ByteArray),.int .i64 0,.int .i64 0,.string (⟨#[]⟩:ByteArray),.slice none 0 0]) (t:=52) ?_;intro q hg w5 hbox hb;have i:=zM (hbox);have ag:=sG HB hg;have D:=sG HB hg;replace HB:=sB HB hb;have E:=sN a hg;have X:=sM a hg;replace a:=sK a hb;have l:=sN b hg;have Y:=sM b hg;replace b:=sK b hb;clear hb hbox hg;have ah:=V.out;have ai:=W.out;have aj:=E.out;have ak:=X.out;obtain⟨al,am,an,ao,ap,aq,ar,au,av,aw⟩:=cells5 a.out;have ax:=Y.out;have ay:=l.out;obtain⟨az,aA,aB,aC,aD,aE,aF,aG,aH,aI⟩:=cells5 i.out)|((with_reducible refine gate_callee (f:=14) rfl ?_);refine sC (some 9) Try.func14 #[.agg #[.int .i64 a0_1,.int .i64 a0_2,.string a0_3,.slice A0_4 l0_4.length c0_4]] (laws_toPattern.calls k a0_1 a0_2 a0_3 _ _ l0_4 c d n u _ ?side1 ?side2 T.out) ?_;(case side1=>exact zC Q.out zzR);(case side2=>exact S.out);rintro e aJ ⟨aK,rfl,F,hb⟩;refine⟨_,rfl,?_⟩;have G:=zM (Kd.R_lower F (below_size zzR));have I:=zM (blk_below (g:=U) (o:= .cells #[.string a0_0,.int .i64 a0_1,.int .i64 a0_2,.string a0_3,.slice A0_4 l0_4.length c0_4] 49 (0,0)) (by(with_reducible repeat(first|refine blk_drewN ?_ _|refine blk_drew ?_|refine blk_alloc ?_ _));refine blk_far ?_ E.out _;exact sT a.out) hb);have J:=zM (blk_below (g:=x) (o:= .cells #[.string (⟨#[]⟩:ByteArray),.int .i64 0,.int .i64 0,.string (⟨#[]⟩:ByteArray),.slice none 0 0] 52 (0,0)) (by(with_reducible repeat(first|refine blk_drewN ?_ _|refine blk_drew ?_|refine blk_alloc ?_ _));refine blk_far ?_ l.out _;exact sT b.out) hb);have K:=zM (blk_below (g:=q) (o:= .cells #[.string a0_0,.int .i64 0,.int .i64 0,.string (⟨#[]⟩:ByteArray),.slice none 0 0] 52 (0,0)) (by(with_reducible repeat(first|refine blk_drewN ?_ _|refine blk_drew ?_|refine blk_alloc ?_ _));refine blk_put (cs:= #[.string (⟨#[]⟩:ByteArray),.int .i64 0,.int .i64 0,.string (⟨#[]⟩:ByteArray),.slice none 0 0]) ?_ 0 _ rfl;exact sT i.out) hb);have L:=sB HB hb;clear a;clear b;clear i;clear HB;have M:=G;have a:=I;have b:=J;have i:=K;have HB:=L;clear G I J K L;(try clear hb);(try clear F);obtain⟨aL,aM,aN,aO,aP,aQ,aR,aS,aT,aU⟩:=cells5 i.out;obtain⟨O,P,Z⟩:=Kd.R_slice M.out;subst Z;obtain⟨aV,aW,aX,aY,aZ,a4,a5,a6,a7,a8⟩:=cells5 b.out))
 refine bodyPost_ret (results_cell_row rfl _ _ x 52 #[.string a0_0,.int .i64 c,.int .i64 d,.string n,.slice O u.length P] (0,0) _ rfl (by(with_reducible repeat(first|refine blk_drewN ?_ _|refine blk_drew ?_|refine blk_alloc ?_ _));refine blk_put (cs:= #[.string a0_0,.int .i64 c,.int .i64 d,.string n,.slice none 0 0]) ?_ 4 _ rfl;(with_reducible repeat(first|refine blk_drewN ?_ _|refine blk_drew ?_|refine blk_alloc ?_ _));refine blk_put (cs:= #[.string a0_0,.int .i64 c,.int .i64 d,.string (⟨#[]⟩:ByteArray),.slice none 0 0]) ?_ 3 _ rfl;(with_reducible repeat(first|refine blk_drewN ?_ _|refine blk_drew ?_|refine blk_alloc ?_ _));refine blk_put (cs:= #[.string a0_0,.int .i64 c,.int .i64 0,.string (⟨#[]⟩:ByteArray),.slice none 0 0]) ?_ 2 _ rfl;(with_reducible repeat(first|refine blk_drewN ?_ _|refine blk_drew ?_|refine blk_alloc ?_ _));refine blk_put (cs:= #[.string a0_0,.int .i64 0,.int .i64 0,.string (⟨#[]⟩:ByteArray),.slice none 0 0]) ?_ 1 _ rfl;(with_reducible repeat(first|refine blk_drewN ?_ _|refine blk_drew ?_|refine blk_alloc ?_ _));refine blk_put (cs:= #[.string (⟨#[]⟩:ByteArray),.int .i64 0,.int .i64 0,.string (⟨#[]⟩:ByteArray),.slice none 0 0]) ?_ 0 _ rfl;(with_reducible repeat(first|refine blk_drewN ?_ _|refine blk_drew ?_|refine blk_alloc ?_ _));refine blk_far ?_ l.out _;(with_reducible repeat(first|refine blk_drewN ?_ _|refine blk_drew ?_|refine blk_alloc ?_ _));refine blk_far ?_ l.out _;(with_reducible repeat(first|refine blk_drewN ?_ _|refine blk_drew ?_|refine blk_alloc ?_ _));refine blk_far ?_ l.out _;(with_reducible repeat(first|refine blk_drewN ?_ _|refine blk_drew ?_|refine blk_alloc ?_ _));refine blk_far ?_ l.out _;exact sT b.out) Try.underlying52 rfl (by kernel_rfl)) rfl ?_
 exact⟨_,sq,by(with_reducible repeat(first|apply Kd.R_alloc|apply Kd.R_drewN|apply Kd.R_drew));exact Kd.R_mono (sRF5 (g:=x) (Kd.R_far (p:=⟨q,4,none⟩) (Kd.R_far (p:=⟨q,3,none⟩) (Kd.R_far (p:=⟨q,2,none⟩) (Kd.R_far (p:=⟨q,1,none⟩) (Kd.R_types (Kd.R_types M.out i.out (by decide)) b.out (by decide)) (fun _ hk=>hk.1.2) (.int .i64 c)) (fun _ hk=>hk.1.2) (.int .i64 d)) (fun _ hk=>hk.1.2) (.string n)) (fun _ hk=>hk.1.2) (.slice O u.length P)) (fun _ hk=>hk.2)) (fun _ hk=>trivial),sb⟩
end Go.Proofs.Ytdihlgkcpooadaa.PFnExactIsPure
