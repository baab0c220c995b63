/- Printed functions: impl_referred. -/
import Derived.Test.YtdihlgkcpooadaaYIpP0
import Derived.Test.YtdihlgkcpooadaaYIpP16
import Derived.Test.YtdihlgkcpooadaaYIpP20
namespace Go.Proofs.Ytdihlgkcpooadaa.PFnExactIsPure
open Go.RowKit Go.Proofs.YtdihlgkcpooadaaG Go.Proofs.YtdihlgkcpooadaaW.PrintWords Go.Proofs.YtdihlgkcpooadaaW.PrintLast Go.Proofs.YtdihlgkcpooadaaW.PrintMore
attribute [local go_sem] max2_int min2_int max_two min_two max_three min_three max_four min_four
set_option linter.unusedVariables false
set_option linter.unusedSimpArgs false
def impl_referred.l0 : Nat → List (S52) → List (S36) → List ByteArray → Int → Option ((List (S36)) × Bool)
 |0,_,_,_,_=>none
 |k+1,x0,x6,x7,x8=>if x8<(x7.length:Int)then(if 0≤x8 then((impl_lookup.f k x0 (rdOf ByteArray.empty x7 x8)).bind fun bt321=>(if bt321.2.2.2.2=true then(if x6.length<2513169434916 then((impl_Pattern_deferred.f k bt321.1 bt321.2.1 bt321.2.2.1 bt321.2.2.2.1 x7).bind fun t332=>(impl_referred.l0 k x0 (x6++[(⟨bt321.1,bt321.2.1,bt321.2.2.1,bt321.2.2.2.1⟩:S36)]) t332 (wrap64 (x8+1))))else(none))else(some (([]:List (S36)),false))))else(none))else(some (x6,true))
def impl_referred.f (k:Nat) (l0:List (S52)) (a1_0:Int) (a1_1:Int) (a1_2:ByteArray) (l1_3:List (S36)):Option ((List (S36))×Bool):=(impl_Pattern_deferred.f k a1_0 a1_1 a1_2 l1_3 ([]:List ByteArray)).bind fun t317=>(impl_referred.l0 k l0 (([]:List (S36))) t317 0)
set_option maxHeartbeats 8000000 in
set_option maxRecDepth 100000 in
theorem impl_referred.calls (k:Nat) (P0_:Nat→Prop) (A0:Option Addr) (c0:Nat) (l0:List (S52)) (a1_0:Int) (a1_1:Int) (a1_2:ByteArray) (A1_3:Option Addr) (c1_3:Nat) (l1_3:List (S36)) (r1:List (S36)) (r2:Bool) (w:World) (hs0:Kd.V k52 52 w w.heap.size (fun a=>P0_ a) (.slice A0 l0.length c0) l0) (hr1_3:Kd.C k36 w A1_3 l1_3.length l1_3) (hc1_3:l1_3.length≤c1_3) (h:impl_referred.f k l0 a1_0 a1_1 a1_2 l1_3=some (r1,r2)):
  Calls Try.prog 37 #[.slice A0 l0.length c0,.agg #[.int .i64 a1_0,.int .i64 a1_1,.string a1_2,.slice A1_3 l1_3.length c1_3]] w fun e w'=>∃av:Value,e= .returned (.tuple #[av,.bool r2])∧Kd.N k36 36 w' w.heap.size (fun a=>(P0_ a∨w.heap.size≤a)) av r1∧Below w.heap.size w w':=by
 have bb:=Try.underlying36
 have W:=zM (show Kd.V k52 52 w w.heap.size (fun a=>(P0_ a∨w.heap.size≤a)) (.slice A0 l0.length c0) l0 from Kd.V_mono hs0 (fun a hk=> .inl hk))
 have aG:=zM hr1_3
 have aH:=zM hc1_3
 clear hr1_3 hc1_3
 have HB:=zM (Below.refl w.heap.size w)
 have H:((impl_Pattern_deferred.f k a1_0 a1_1 a1_2 l1_3 ([]:List ByteArray)).bind fun ae=>(impl_referred.l0 k l0 (([]:List (S36))) ae 0))=some (r1,r2):=h
 clear h
 obtain⟨y314,hy314⟩:∃y_:List (S36),y_=(([]:List (S36))):=⟨_,rfl⟩
 replace H:((impl_Pattern_deferred.f k a1_0 a1_1 a1_2 l1_3 ([]:List ByteArray)).bind fun ae=>(impl_referred.l0 k l0 y314 ae 0))=some (r1,r2):=by first|(rw[hy314];with_reducible exact H)|(have Y:=(Option.bind_some _ _).symm.trans H;rw[hy314];with_reducible exact Y)|(have Y:=(Option.bind_some _ _).symm.trans H;with_reducible exact Y)|with_reducible exact H|(rw[hy314];exact H)|exact H
 have aw:=zM hy314
 clear hy314
 obtain⟨ae,A3,H⟩:=sO H
 have H':=zM H
 clear H
 go_enter Try.func37,Try.ntmps37
 go_wp2_with (first|((with_reducible refine gate_dst (N:=3) rfl ?_);refine sV (N:=3) (cs:= #[.int .i64 a1_0,.int .i64 a1_1,.string a1_2,.slice A1_3 l1_3.length c1_3]) (t:=36) ?_;intro l hg w4 hbox hb;have r:=zM (Kd.V_below (Kd.V_elderB (by(with_reducible repeat(first|apply Kd.V_alloc|apply Kd.V_drewN|apply Kd.V_drew));exact W.out) l (Nat.le_of_eq hg.symm)) hb);have s:=sB HB hb;have u:=zM (hbox);have x:=sG HB hg;have D:=sG HB hg;clear W;clear HB;have W:=r;have HB:=s;have j:=u;have bc:=x;have P:=D;clear r s u x D;clear hb hbox hg)|((with_reducible refine gate_dst (N:=11) rfl ?_);refine Kd.N_lit k36 _ 36 ?hg (N':=11) ?hd (xs:=([]:List (S36))) (inner:=[]) (ok:=(fun a=>(P0_ a∨w.heap.size≤a)∧a≠l)) (okp:=(fun a=>(P0_ a∨w.heap.size≤a)∧a≠l)) ?hr ?hp (fun _ hk=>hk) ((show ∀a,w4.heap.size≤a→(fun a=>(P0_ a∨w.heap.size≤a)∧a≠l) a from fun a hk=>⟨(.inr (Nat.le_trans (below_size zzR) hk)),Kd.freshB (g:=l) (o:= .cells #[.int .i64 a1_0,.int .i64 a1_1,.string a1_2,.slice A1_3 l1_3.length c1_3] 36 (0,0)) (sT j.out) a hk⟩) _ (Nat.le_refl _)) (Below.refl _ _) (Nat.le_refl _) (by simp) ?_;(case hd=>rfl);(case hg=>rfl);(case hr=>first|(go_simp;done)|(go_simp;rfl));(case hp=>exact(Reps.none _ _));intro aI w5 af hb aJ aK;clear aJ aK;(first|rw[←aw.out]at af|(simp only[Int.reduceToNat]at af;rw[←aw.out]at af));have r:=zM (Kd.V_elder' (by(with_reducible repeat(first|apply Kd.V_alloc|apply Kd.V_drewN|apply Kd.V_drew));exact W.out) (Kd.N_base af) hb);have s:=zM (Kd.N_lower af (below_size zzR));have u:=sK j hb;have x:=sB HB hb;clear W;clear j;clear HB;have W:=r;have ao:=s;have j:=u;have HB:=x;clear r s u x;clear hb af;obtain⟨aM,aN,aQ,aR,aT,aU,aV,aW⟩:=cells4 j.out)|((with_reducible refine gate_callee (f:=59) rfl ?_);refine sC (some 13) Try.func59 #[.agg #[.int .i64 a1_0,.int .i64 a1_1,.string a1_2,.slice A1_3 l1_3.length c1_3],.slice none 0 0] (impl_Pattern_deferred.calls k a1_0 a1_1 a1_2 _ _ l1_3 (fun a=>some a=(.slice none 0 0:Value).ownBlock) (.slice none 0 0) ([]:List ByteArray) ae w _ ?side1 ?side2 ?side3 ?side4 A3.out) ?_;(case side1=>repeat(first|(with_reducible first|exact HB.out|apply below_alloc|apply pw_below_drewN|apply below_drew1|refine below_set ?_ P.out)|exact HB.out));(case side2=>exact Kd.C_kept_came k36_heap aG.out zzR (fun a d=>(fun A=>by simp[Value.ownBlock]at A) d));(case side3=>exact aH.out);(case side4=>exact Kd.R_nil _ _ _ _ _);rintro e w8 ⟨ax,rfl,M,hb,hkp⟩;refine⟨_,rfl,?_⟩;replace W:=zM (Kd.V_mono (ok':=fun a=>(P0_ a∨w.heap.size≤a)∧some a≠(aI:Value).ownBlock∧a≠l∧some a≠(ax:Value).ownBlock) (Kd.V_keptB (W.out) hkp (fun a c d=>(fun A=>by simp[Value.ownBlock]at A) d)) (fun a c=>⟨c.1.1.1,c.1.2,c.1.1.2,fun A=>Or.elim (M.1 a A.symm) (fun d=>c.2.1 d) (fun q=>Nat.not_le.2 c.2.2 q)⟩));replace j:=zM (blk_kept (sT j.out) hkp (fun d=>(fun A=>by simp[Value.ownBlock]at A) d));replace ao:=zM (Kd.N_mono (ok':=fun a=>(P0_ a∨w.heap.size≤a)∧a≠l∧some a≠(ax:Value).ownBlock) (Kd.N_keptB (ao.out) hkp (fun a c d=>(fun A=>by simp[Value.ownBlock]at A) d)) (fun a c=>⟨c.1.1,c.1.2,fun A=>Or.elim (M.1 a A.symm) (fun d=>c.2.1 d) (fun q=>Nat.not_le.2 c.2.2 q)⟩));have aX:=zM (Kd.R_mono (ok':=fun a=>(w.heap.size≤a)) M (fun a c=>Or.elim c (fun d=>absurd d (by simp[Value.ownBlock])) (fun q=>(Nat.le_trans (below_size zzR) q))));replace HB:=zM (hb);(try clear hb);(try clear hkp);(try clear M)))
 go_loopg [6,7,8] k (fun kq v6 v7 v8 w'=>∃(X:List (S36)) (m:List ByteArray) (F:Int),v8= .int .i64 F∧Aside0 (impl_referred.l0 kq l0 X m F=some (r1,r2))∧Aside0 (kq≤k)∧Aside0 (Kd.V k52 52 w' w.heap.size (fun a=>(P0_ a∨w.heap.size≤a)∧some a≠(v6:Value).ownBlock∧some a≠(v7:Value).ownBlock∧a≠l) (.slice A0 l0.length c0) l0)∧Aside0 (Kd.N k36 36 w' w.heap.size (fun a=>(P0_ a∨w.heap.size≤a)∧some a≠(v7:Value).ownBlock∧a≠l) v6 X)∧Aside0 (Kd.R Kd.string 9 w' w.heap.size (fun a=>(w.heap.size≤a)) v7 m)∧Aside0 (w'.heap[l]?=some (.cells #[.int .i64 a1_0,.int .i64 a1_1,.string a1_2,(.slice A1_3 l1_3.length c1_3)] 36 (0,0)))∧Aside0 (Below w.heap.size w w'))
 case atStart=>exact⟨(y314),(ae),(0),sr,H',⟨Nat.le_refl _⟩,⟨by(with_reducible repeat(first|apply Kd.V_alloc|apply Kd.V_drewN|apply Kd.V_drew));exact Kd.V_mono W.out (fun _ hk=>⟨hk.1,⟨hk.2.1,⟨hk.2.2.2,hk.2.2.1⟩⟩⟩)⟩,⟨by(with_reducible repeat(first|apply Kd.N_alloc|apply Kd.N_drewN|apply Kd.N_drew));exact Kd.N_mono ao.out (fun _ hk=>⟨hk.1,⟨hk.2.2,hk.2.1⟩⟩)⟩,⟨by exact sE aX.out⟩,⟨by exact sT j.out⟩,⟨sb⟩⟩
 case round=>(
 clear H'
 try clear aM
 try clear aN
 try clear aQ
 try clear aR
 try clear aT
 try clear aU
 try clear aV
 try clear aW
 obtain⟨X,m,F,rfl,HA,ay,y,z,n,j,HB⟩:=hrel
 cases gk with
 |zero=>exact absurd HA.out (by simp[impl_referred.l0])
 |succ k1=>(
 have H:=HA.out
 clear HA
 simp only[impl_referred.l0]at H
 by_cases c9:F<(m.length:Int)
 ·(
 rw[if_pos c9]at H
 have c9b0:=zT c9
 clear c9
 by_cases al:0≤F
 ·(
 rw[if_pos al]at H
 have c10b0:=zT al
 clear al
 replace H:=Option.bind_eq_some_iff.mp H
 obtain⟨⟨G,I,J,E,az⟩,aA,H⟩:=H
 replace H:(if az=true then(if X.length<2513169434916 then((impl_Pattern_deferred.f k1 G I J E m).bind fun ag=>(impl_referred.l0 k1 l0 (X++[(⟨G,I,J,E⟩:S36)]) ag (wrap64 (F+1))))else(none))else(some (([]:List (S36)),false)))=some (r1,r2):=H
 have aC:=zM aA
 clear aA
 by_cases am:az=true
 ·(
 subst am
 rewrite[if_pos rfl]at H
 by_cases an:X.length<2513169434916
 ·(
 rw[if_pos an]at H
 have aY:=zM an
 clear an
 obtain⟨y329,hy329⟩:∃y_:List (S36),y_=(X++[(⟨G,I,J,E⟩:S36)]):=⟨_,rfl⟩
 replace H:((impl_Pattern_deferred.f k1 G I J E m).bind fun ag=>(impl_referred.l0 k1 l0 y329 ag (wrap64 (F+1))))=some (r1,r2):=by first|(rw[hy329];with_reducible exact H)|(have Y:=(Option.bind_some _ _).symm.trans H;rw[hy329];with_reducible exact Y)|(have Y:=(Option.bind_some _ _).symm.trans H;with_reducible exact Y)|with_reducible exact H|(rw[hy329];exact H)|exact H
 have aZ:=zM hy329
 clear hy329
 obtain⟨ag,a0,H⟩:=sO H
 have H':=zM H
 clear H
 obtain⟨bd,Q,a1⟩:=Kd.R_slice n.out
 subst a1
 have Z:0≤(F:Int):=zzA
 have aa:F<(m.length:Int):=zzA
 obtain⟨K,ap,a2⟩:=Kd.at_string (Kd.R_reads' n.out).2.2 F Z aa
 cases ap
 replace Z:=eq_true Z
 replace aa:=eq_true aa
 go_wp2_with (first|((with_reducible refine gate_callee (f:=30) rfl ?_);refine sC (some 26) Try.func30 #[.slice A0 l0.length c0,.string (rdOf ByteArray.empty m F)] (impl_lookup.calls k1 (fun a=>((P0_ a∨w.heap.size≤a)∧(some a≠(u6:Value).ownBlock∧(some a≠(.slice (some K) m.length Q:Value).ownBlock∧a≠l)))) _ _ l0 (rdOf ByteArray.empty m F) G I J E true _ ?side1 aC.out) ?_;(case side1=>exact y.out);rintro e be ⟨a3,rfl,M,hb⟩;refine⟨_,rfl,?_⟩;have r:=zM (Kd.V_below (by(with_reducible repeat(first|apply Kd.V_alloc|apply Kd.V_drewN|apply Kd.V_drew));exact y.out) hb);have s:=zM (Kd.N_below (by(with_reducible repeat(first|apply Kd.N_alloc|apply Kd.N_drewN|apply Kd.N_drew));exact z.out) hb);have u:=zM (Kd.R_below (sE n.out) hb);have x:=zM (Kd.V_lower (Kd.V_mono (ok':=fun a=>(P0_ a∨w.heap.size≤a)∧some a≠(u6:Value).ownBlock∧some a≠(.slice (some K) m.length Q:Value).ownBlock∧a≠l) M (fun a c=>⟨Or.elim c (fun d=>d.1) (fun q=>(.inr (Nat.le_trans (below_size zzR) q))),Or.elim c (fun d=>d.2.1) (fun q=>(Kd.fresh' (Kd.N_lt (by(with_reducible repeat(first|apply Kd.N_alloc|apply Kd.N_drewN|apply Kd.N_drew));exact z.out)) a q)),Or.elim c (fun d=>d.2.2.1) (fun q=>(Kd.fresh' (Kd.R_lt (sE n.out)) a q)),Or.elim c (fun d=>d.2.2.2) (fun q=>(Kd.freshB (g:=l) (o:= .cells #[.int .i64 a1_0,.int .i64 a1_1,.string a1_2,.slice A1_3 l1_3.length c1_3] 36 (0,0)) (sT j.out) a q))⟩)) (below_size zzR));have D:=sK j hb;have L:=sB HB hb;clear y;clear z;clear n;clear j;clear HB;have y:=r;have z:=s;have n:=u;have B:=x;have j:=D;have HB:=L;clear r s u x D L;(try clear hb);(try clear M))|((with_reducible refine gate_dst (N:=9) rfl ?_);refine sV (N:=9) (cs:= #[.int .i64 0,.int .i64 0,.string (⟨#[]⟩:ByteArray),.slice none 0 0]) (t:=36) ?_;intro i hg a4 hbox hb;have r:=zM (Kd.V_below (Kd.V_elderB (by(with_reducible repeat(first|apply Kd.V_alloc|apply Kd.V_drewN|apply Kd.V_drew));exact y.out) i (Nat.le_of_eq hg.symm)) hb);have s:=zM (Kd.N_below (Kd.N_elderB (by(with_reducible repeat(first|apply Kd.N_alloc|apply Kd.N_drewN|apply Kd.N_drew));exact z.out) i (Nat.le_of_eq hg.symm)) hb);have u:=zM (Kd.R_below (sE n.out) hb);have x:=zM (Kd.V_below (Kd.V_elderB (by(with_reducible repeat(first|apply Kd.V_alloc|apply Kd.V_drewN|apply Kd.V_drew));exact B.out) i (Nat.le_of_eq hg.symm)) hb);have D:=sK j hb;have L:=sB HB hb;have S:=zM (hbox);have ah:=sG HB hg;have ai:=sG HB hg;have aj:=sN j hg;have ak:=sM j hg;clear y;clear z;clear n;clear B;clear j;clear HB;have y:=r;have z:=s;have n:=u;have B:=x;have j:=D;have HB:=L;have O:=S;have a5:=ah;have ab:=ai;have ac:=aj;have aq:=ak;clear r s u x D L S ah ai aj ak;clear hb hbox hg;have bf:=aq.out;have bg:=ac.out;obtain⟨bh,bi,bj,bk,bl,bm,bn,bo⟩:=cells4 O.out;obtain⟨T,U,a6⟩:=Kd.V_slice B.out;subst a6)|((with_reducible refine gate_store (t:=36) (p:=9) rfl ?_);refine store_event (t:=36) (p:=9) (v:=?vo_w21) (w1:=((((a4.setCell ⟨i,0,none⟩ (.int .i64 G)).setCell ⟨i,1,none⟩ (.int .i64 I)).setCell ⟨i,2,none⟩ (.string J)).setCell ⟨i,3,none⟩ (.slice T E.length U))) ?hg ?ho ?hn ?hr ?_;(case ho=>rfl);(case hg=>rfl);(case hn=>rfl);(case hr=>first|(go_simp;done)|(go_simp;rfl));intro ad hw;have r:Aside0 (Kd.V k52 52 ad w.heap.size (fun a=>(P0_ a∨w.heap.size≤a)∧some a≠(u6:Value).ownBlock∧some a≠(.slice (some K) m.length Q:Value).ownBlock∧a≠l∧a≠i) (.slice A0 l0.length c0) l0):=⟨(by rw[hw];exact(by(with_reducible repeat(first|apply Kd.V_alloc|apply Kd.V_drewN|apply Kd.V_drew));exact Kd.V_mono (Kd.V_far (p:=⟨i,3,none⟩) (Kd.V_far (p:=⟨i,2,none⟩) (Kd.V_far (p:=⟨i,1,none⟩) (Kd.V_far (p:=⟨i,0,none⟩) (Kd.V_mono y.out (fun a hk=>(⟨hk,hk.2⟩:_∧a≠i))) (fun _ hk=>hk.2) (.int .i64 G)) (fun _ hk=>hk.2) (.int .i64 I)) (fun _ hk=>hk.2) (.string J)) (fun _ hk=>hk.2) (.slice T E.length U)) (fun _ hk=>⟨hk.1.1.1,⟨hk.1.1.2.1,⟨hk.1.1.2.2.1,⟨hk.1.1.2.2.2,hk.1.2⟩⟩⟩⟩)))⟩;have s:Aside0 (Kd.N k36 36 ad w.heap.size (fun a=>(P0_ a∨w.heap.size≤a)∧some a≠(.slice (some K) m.length Q:Value).ownBlock∧a≠l∧a≠i) u6 X):=⟨(by rw[hw];exact(by(with_reducible repeat(first|apply Kd.N_alloc|apply Kd.N_drewN|apply Kd.N_drew));exact Kd.N_mono (Kd.N_far (p:=⟨i,3,none⟩) (Kd.N_far (p:=⟨i,2,none⟩) (Kd.N_far (p:=⟨i,1,none⟩) (Kd.N_far (p:=⟨i,0,none⟩) (Kd.N_mono z.out (fun a hk=>(⟨hk,hk.2⟩:_∧a≠i))) (fun _ hk=>hk.2) (.int .i64 G)) (fun _ hk=>hk.2) (.int .i64 I)) (fun _ hk=>hk.2) (.string J)) (fun _ hk=>hk.2) (.slice T E.length U)) (fun _ hk=>⟨hk.1.1.1,⟨hk.1.1.2.1,⟨hk.1.1.2.2,hk.1.2⟩⟩⟩)))⟩;have u:Aside0 (Kd.R Kd.string 9 ad w.heap.size (fun a=>(w.heap.size≤a)) (.slice (some K) m.length Q) m):=⟨(by rw[hw];exact(by(with_reducible repeat(first|apply Kd.R_alloc|apply Kd.R_drewN|apply Kd.R_drew));exact Kd.R_mono (sRF4 (g:=i) (Kd.R_types n.out O.out (by decide)) (fun _ hk=>hk.2)) (fun _ hk=>hk.1)))⟩;have x:Aside0 (Kd.V k36 36 ad w.heap.size (fun a=>(P0_ a∨w.heap.size≤a)∧some a≠(u6:Value).ownBlock∧some a≠(.slice (some K) m.length Q:Value).ownBlock∧a≠l∧a≠i) (.slice T E.length U) E):=⟨(by rw[hw];exact(by(with_reducible repeat(first|apply Kd.V_alloc|apply Kd.V_drewN|apply Kd.V_drew));exact Kd.V_mono (Kd.V_far (p:=⟨i,3,none⟩) (Kd.V_far (p:=⟨i,2,none⟩) (Kd.V_far (p:=⟨i,1,none⟩) (Kd.V_far (p:=⟨i,0,none⟩) (Kd.V_mono B.out (fun a hk=>(⟨hk,hk.2⟩:_∧a≠i))) (fun _ hk=>hk.2) (.int .i64 G)) (fun _ hk=>hk.2) (.int .i64 I)) (fun _ hk=>hk.2) (.string J)) (fun _ hk=>hk.2) (.slice T E.length U)) (fun _ hk=>⟨hk.1.1.1,⟨hk.1.1.2.1,⟨hk.1.1.2.2.1,⟨hk.1.1.2.2.2,hk.1.2⟩⟩⟩⟩)))⟩;have D:Aside0 (ad.heap[l]?=some (.cells #[.int .i64 a1_0,.int .i64 a1_1,.string a1_2,.slice A1_3 l1_3.length c1_3] 36 (0,0))):=⟨(by rw[hw];exact(by(with_reducible repeat(first|refine blk_drewN ?_ _|refine blk_drew ?_|refine blk_alloc ?_ _));refine blk_far ?_ ac.out _;(with_reducible repeat(first|refine blk_drewN ?_ _|refine blk_drew ?_|refine blk_alloc ?_ _));refine blk_far ?_ ac.out _;(with_reducible repeat(first|refine blk_drewN ?_ _|refine blk_drew ?_|refine blk_alloc ?_ _));refine blk_far ?_ ac.out _;(with_reducible repeat(first|refine blk_drewN ?_ _|refine blk_drew ?_|refine blk_alloc ?_ _));refine blk_far ?_ ac.out _;exact sT j.out))⟩;have L:Aside0 (ad.heap[i]?=some (.cells #[.int .i64 G,.int .i64 I,.string J,.slice T E.length U] 36 (0,0))):=⟨(by rw[hw];exact(by exact sP4 (sT O.out)))⟩;have S:Aside0 (Below w.heap.size w ad):=⟨(by rw[hw];exact zzR)⟩;clear hw;clear y;clear z;clear n;clear B;clear j;clear O;clear HB;have y:=r;have z:=s;have n:=u;have B:=x;have j:=D;have O:=L;have HB:=S;clear r s u x D L S;obtain⟨bp,bq,br,bs,bt,bu,bv,bw⟩:=cells4 O.out)|((with_reducible refine gate_builtin (b:= .append) (xs:= #[.tmp 31,.tmp 33]) rfl ?_);at_builtin;refine Kd.N_append k36 (w0:=w) w.heap.size rfl (.tmp 31) (.tmp 33) 34 36 (.agg #[(.int .i64 0),(.int .i64 0),(.string ⟨#[]⟩),(.slice none 0 0)]) 56 rfl Try.underlying34 info36 rfl (by decide) (by omega) u6 X (⟨G,I,J,E⟩:S36) [.int .i64 G,.int .i64 I,.string J,.slice T E.length U] (fun a=>(P0_ a∨w.heap.size≤a)∧some a≠(.slice (some K) m.length Q:Value).ownBlock∧a≠l∧a≠i) (fun a=>((fun a=>(P0_ a∨w.heap.size≤a)∧some a≠(.slice (some K) m.length Q:Value).ownBlock∧a≠l∧a≠i)) a∧some a≠(u6:Value).ownBlock) rfl rfl ?aP (fun _ hk=>hk) ?aF ?aO ?aB ?aS ?aL ?_;(case aP=>exact(k36_mkF _ _ (⟨G,I,J,E⟩:S36) (Kd.V_reads' (Kd.V_mono (ok':=(fun a=>((fun a=>(P0_ a∨w.heap.size≤a)∧some a≠(.slice (some K) m.length Q:Value).ownBlock∧a≠l∧a≠i)) a∧some a≠(u6:Value).ownBlock)) (B.out) (fun a hk=>⟨⟨hk.1,⟨hk.2.2.1,⟨hk.2.2.2.1,hk.2.2.2.2⟩⟩⟩,hk.2.1⟩))).2.1 (Kd.V_F (Kd.V_mono (ok':=(fun a=>((fun a=>(P0_ a∨w.heap.size≤a)∧some a≠(.slice (some K) m.length Q:Value).ownBlock∧a≠l∧a≠i)) a∧some a≠(u6:Value).ownBlock)) (B.out) (fun a hk=>⟨⟨hk.1,⟨hk.2.2.1,⟨hk.2.2.2.1,hk.2.2.2.2⟩⟩⟩,hk.2.1⟩)))));(case aB=>exact zzR);(case aF=>exact(fun a hk=>⟨(.inr (Nat.le_trans (below_size zzR) hk)),Kd.fresh' (Kd.R_lt (sE n.out)) a hk,Kd.freshB (g:=l) (o:= .cells #[.int .i64 a1_0,.int .i64 a1_1,.string a1_2,.slice A1_3 l1_3.length c1_3] 36 (0,0)) (sT j.out) a hk,Kd.freshB (g:=i) (o:= .cells #[.int .i64 G,.int .i64 I,.string J,.slice T E.length U] 36 (0,0)) (sT O.out) a hk⟩));(case aO=>exact(by(with_reducible repeat(first|apply Kd.N_alloc|apply Kd.N_drewN|apply Kd.N_drew));exact z.out));(case aS=>exact(below_size zzR));(case aL=>have:=aY.out;omega);intro aD bx ho hb hg hat;rw[←aZ.out]at ho;have r:=zM (Kd.V_afterv (ok:=(fun a=>(P0_ a∨w.heap.size≤a)∧some a≠(.slice (some K) m.length Q:Value).ownBlock∧a≠l∧a≠i)) (by(with_reducible repeat(first|apply Kd.V_alloc|apply Kd.V_drewN|apply Kd.V_drew));exact Kd.V_mono y.out (fun _ hk=>⟨⟨hk.1,⟨hk.2.2.1,⟨hk.2.2.2.1,hk.2.2.2.2⟩⟩⟩,hk.2.1⟩)) hg hat);have s:=zM (Kd.R_over' (sE n.out) (Kd.N_typed (by(with_reducible repeat(first|apply Kd.N_alloc|apply Kd.N_drewN|apply Kd.N_drew));exact z.out)) (by decide) hg);have u:=zM (blk_grown (g:=l) (o:= .cells #[.int .i64 a1_0,.int .i64 a1_1,.string a1_2,.slice A1_3 l1_3.length c1_3] 36 (0,0)) (sT j.out) hg (Kd.N_away z.out (fun _ hk=>hk.2.2.1)));have x:=zM (Kd.V_afterv (ok:=(fun a=>(P0_ a∨w.heap.size≤a)∧some a≠(.slice (some K) m.length Q:Value).ownBlock∧a≠l∧a≠i)) (by(with_reducible repeat(first|apply Kd.V_alloc|apply Kd.V_drewN|apply Kd.V_drew));exact Kd.V_mono B.out (fun _ hk=>⟨⟨hk.1,⟨hk.2.2.1,⟨hk.2.2.2.1,hk.2.2.2.2⟩⟩⟩,hk.2.1⟩)) hg hat);have D:=zM (blk_grown (g:=i) (o:= .cells #[.int .i64 G,.int .i64 I,.string J,.slice T E.length U] 36 (0,0)) (sT O.out) hg (Kd.N_away z.out (fun _ hk=>hk.2.2.2)));have L:=zM (hb);have S:=zM (ho);clear y;clear n;clear j;clear B;clear O;clear HB;clear z;have y:=r;have n:=s;have j:=u;have B:=x;have O:=D;have HB:=L;have ar:=S;clear r s u x D L S;clear ho hb hg hat;obtain⟨bz,bA,bB,bC,bD,bE,bF,bG⟩:=cells4 O.out)|((with_reducible refine gate_callee (f:=59) rfl ?_);refine sC (some 37) Try.func59 #[.agg #[.int .i64 G,.int .i64 I,.string J,.slice T E.length U],.slice (some K) m.length Q] (impl_Pattern_deferred.calls k1 G I J _ _ E (fun a=>some a=(.slice (some K) m.length Q:Value).ownBlock) (.slice (some K) m.length Q) m ag w _ ?side1 ?side2 ?side3 ?side4 a0.out) ?_;(case side1=>repeat(first|(with_reducible first|exact HB.out|apply below_alloc|apply pw_below_drewN|apply below_drew1|refine below_set ?_ P.out|refine below_set ?_ ab.out)|exact HB.out));(case side2=>exact Kd.C_kept_ownV (B.out) (fun a c d=>(c.1.2.1) d));(case side3=>exact(Kd.V_reads' B.out).2.1);(case side4=>exact Kd.R_tight rfl n.out);rintro e bH ⟨au,rfl,M,hb,hkp⟩;refine⟨_,rfl,?_⟩;replace y:=zM (Kd.V_mono (ok':=fun a=>(P0_ a∨w.heap.size≤a)∧some a≠(aD:Value).ownBlock∧a≠l∧a≠i∧some a≠(au:Value).ownBlock) (Kd.V_keptB (y.out) hkp (fun a c d=>(c.1.2.1) d)) (fun a c=>⟨c.1.1.1,c.1.2,c.1.1.2.2.1,c.1.1.2.2.2,fun A=>Or.elim (M.1 a A.symm) (fun d=>c.2.1 d) (fun q=>Nat.not_le.2 c.2.2 q)⟩));replace j:=zM (blk_kept (sT j.out) hkp (fun d=>(fun A=>(Kd.R_ne n.out j.out (by decide)) A) d));replace B:=zM (Kd.V_mono (ok':=fun a=>(P0_ a∨w.heap.size≤a)∧some a≠(aD:Value).ownBlock∧a≠l∧a≠i∧some a≠(au:Value).ownBlock) (Kd.V_keptB (B.out) hkp (fun a c d=>(c.1.2.1) d)) (fun a c=>⟨c.1.1.1,c.1.2,c.1.1.2.2.1,c.1.1.2.2.2,fun A=>Or.elim (M.1 a A.symm) (fun d=>c.2.1 d) (fun q=>Nat.not_le.2 c.2.2 q)⟩));replace O:=zM (blk_kept (sT O.out) hkp (fun d=>(fun A=>(Kd.R_ne n.out O.out (by decide)) A) d));replace ar:=zM (Kd.N_mono (ok':=fun a=>(P0_ a∨w.heap.size≤a)∧a≠l∧a≠i∧some a≠(au:Value).ownBlock) (Kd.N_keptB (ar.out) hkp (fun a c d=>(c.2.1) d)) (fun a c=>⟨c.1.1,c.1.2.2.1,c.1.2.2.2,fun A=>Or.elim (M.1 a A.symm) (fun d=>c.2.1 d) (fun q=>Nat.not_le.2 c.2.2 q)⟩));have a7:=zM (Kd.R_mono (ok':=fun a=>(w.heap.size≤a)) M (fun a c=>Or.elim c (fun d=>(n.out.1 a (d).symm)) (fun q=>(Nat.le_trans (below_size zzR) q))));replace HB:=zM (hb);clear n;(try clear hb);(try clear hkp);(try clear M)))
 go_roundg k1
 case measure=>have:=ay.out;omega
 case rel=>exact⟨(y329),(ag),(wrap64 (F+1)),sr,H',⟨by have:=ay.out;omega⟩,⟨by(with_reducible repeat(first|apply Kd.V_alloc|apply Kd.V_drewN|apply Kd.V_drew));exact Kd.V_mono y.out (fun _ hk=>⟨hk.1,⟨hk.2.1,⟨hk.2.2.2.2,hk.2.2.1⟩⟩⟩)⟩,⟨by(with_reducible repeat(first|apply Kd.N_alloc|apply Kd.N_drewN|apply Kd.N_drew));exact Kd.N_mono ar.out (fun _ hk=>⟨hk.1,⟨hk.2.2.2,hk.2.1⟩⟩)⟩,⟨by exact sE a7.out⟩,⟨by exact sT j.out⟩,⟨sb⟩⟩)
 rw[if_neg an]at H
 exact absurd H (by simp))
 replace am:=zB am
 subst am
 rewrite[if_neg zQ]at H
 simp only[Option.some.injEq,Prod.mk.injEq]at H
 obtain⟨rfl,rfl⟩:=H
 obtain⟨bI,aE,a8⟩:=Kd.R_slice n.out
 subst a8
 have Z:0≤(F:Int):=zzA
 have aa:F<(m.length:Int):=zzA
 obtain⟨K,ap,a2⟩:=Kd.at_string (Kd.R_reads' n.out).2.2 F Z aa
 cases ap
 replace Z:=eq_true Z
 replace aa:=eq_true aa
 go_wp2_with (first|((with_reducible refine gate_callee (f:=30) rfl ?_);refine sC (some 26) Try.func30 #[.slice A0 l0.length c0,.string (rdOf ByteArray.empty m F)] (impl_lookup.calls k1 (fun a=>((P0_ a∨w.heap.size≤a)∧(some a≠(u6:Value).ownBlock∧(some a≠(.slice (some K) m.length aE:Value).ownBlock∧a≠l)))) _ _ l0 (rdOf ByteArray.empty m F) G I J E false _ ?side1 aC.out) ?_;(case side1=>exact y.out);rintro e bJ ⟨a3,rfl,M,hb⟩;refine⟨_,rfl,?_⟩;have r:=zM (Kd.V_below (by(with_reducible repeat(first|apply Kd.V_alloc|apply Kd.V_drewN|apply Kd.V_drew));exact y.out) hb);have s:=zM (Kd.N_below (by(with_reducible repeat(first|apply Kd.N_alloc|apply Kd.N_drewN|apply Kd.N_drew));exact z.out) hb);have u:=zM (Kd.R_below (sE n.out) hb);have x:=zM (Kd.V_lower (Kd.V_mono (ok':=fun a=>(P0_ a∨w.heap.size≤a)∧some a≠(u6:Value).ownBlock∧some a≠(.slice (some K) m.length aE:Value).ownBlock∧a≠l) M (fun a c=>⟨Or.elim c (fun d=>d.1) (fun q=>(.inr (Nat.le_trans (below_size zzR) q))),Or.elim c (fun d=>d.2.1) (fun q=>(Kd.fresh' (Kd.N_lt (by(with_reducible repeat(first|apply Kd.N_alloc|apply Kd.N_drewN|apply Kd.N_drew));exact z.out)) a q)),Or.elim c (fun d=>d.2.2.1) (fun q=>(Kd.fresh' (Kd.R_lt (sE n.out)) a q)),Or.elim c (fun d=>d.2.2.2) (fun q=>(Kd.freshB (g:=l) (o:= .cells #[.int .i64 a1_0,.int .i64 a1_1,.string a1_2,.slice A1_3 l1_3.length c1_3] 36 (0,0)) (sT j.out) a q))⟩)) (below_size zzR));have D:=sK j hb;have L:=sB HB hb;clear y;clear z;clear n;clear j;clear HB;have y:=r;have z:=s;have n:=u;have B:=x;have j:=D;have HB:=L;clear r s u x D L;(try clear hb);(try clear M))|((with_reducible refine gate_dst (N:=9) rfl ?_);refine sV (N:=9) (cs:= #[.int .i64 0,.int .i64 0,.string (⟨#[]⟩:ByteArray),.slice none 0 0]) (t:=36) ?_;intro i hg bK hbox hb;have r:=zM (Kd.V_below (Kd.V_elderB (by(with_reducible repeat(first|apply Kd.V_alloc|apply Kd.V_drewN|apply Kd.V_drew));exact y.out) i (Nat.le_of_eq hg.symm)) hb);have s:=zM (Kd.N_below (Kd.N_elderB (by(with_reducible repeat(first|apply Kd.N_alloc|apply Kd.N_drewN|apply Kd.N_drew));exact z.out) i (Nat.le_of_eq hg.symm)) hb);have u:=zM (Kd.R_below (sE n.out) hb);have x:=zM (Kd.V_below (Kd.V_elderB (by(with_reducible repeat(first|apply Kd.V_alloc|apply Kd.V_drewN|apply Kd.V_drew));exact B.out) i (Nat.le_of_eq hg.symm)) hb);have D:=sK j hb;have L:=sB HB hb;have S:=zM (hbox);have ah:=sG HB hg;have ai:=sG HB hg;have aj:=sN j hg;have ak:=sM j hg;clear y;clear z;clear n;clear B;clear j;clear HB;have y:=r;have z:=s;have n:=u;have B:=x;have j:=D;have HB:=L;have O:=S;have a5:=ah;have ab:=ai;have ac:=aj;have aq:=ak;clear r s u x D L S ah ai aj ak;clear hb hbox hg;have bL:=aq.out;have bM:=ac.out;obtain⟨bN,bO,bP,bQ,bR,bS,bT,bU⟩:=cells4 O.out;obtain⟨bV,bW,a9⟩:=Kd.V_slice B.out;subst a9))
 go_ret2
 exact⟨_,sq,by first|exact Kd.R_nil _ _ _ _ _|exact Kd.N_nil _ _ _ _ _|exact Kd.V_nil _ _ _ _ _|exact Kd.Q_nil _ _ _ _ _|exact Kd.S_nil _ _ _ _ _,sb⟩)
 rw[if_neg al]at H
 exact absurd H (by simp))
 rw[if_neg c9]at H
 have c9b0:=zF c9
 clear c9
 simp only[Option.some.injEq,Prod.mk.injEq]at H
 obtain⟨rfl,rfl⟩:=H
 obtain⟨bX,bY,ba⟩:=Kd.R_slice n.out
 subst ba
 go_wp2
 go_ret2
 exact⟨_,sq,by(with_reducible repeat(first|apply Kd.N_alloc|apply Kd.N_drewN|apply Kd.N_drew));exact Kd.N_mono z.out (fun _ hk=>hk.1),sb⟩))
end Go.Proofs.Ytdihlgkcpooadaa.PFnExactIsPure
