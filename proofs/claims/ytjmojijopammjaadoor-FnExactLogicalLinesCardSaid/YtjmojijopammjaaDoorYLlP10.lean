/- Printed functions: laws_FnExactLogicalLines. -/
import Derived.Test.YtjmojijopammjaaDoorYLlP0
import Derived.Test.YtjmojijopammjaaDoorYLlP3
import Derived.Test.YtjmojijopammjaaDoorYLlP7
import Derived.Test.YtjmojijopammjaaDoorYLlP8
import Derived.Test.YtjmojijopammjaaDoorYLlP9
namespace Go.Proofs.YtjmojijopammjaaDoor.PFnExactLogicalLines
open Go.RowKit Go.Proofs.YtjmojijopammjaaDoorG Go.Proofs.YtjmojijopammjaaDoorW.PrintWords Go.Proofs.YtjmojijopammjaaDoorW.PrintLast Go.Proofs.YtjmojijopammjaaDoorW.PrintMore
attribute [local go_sem] max2_int min2_int max_two min_two max_three min_three max_four min_four
set_option linter.unusedVariables false
set_option linter.unusedSimpArgs false
mutual
def laws_FnExactLogicalLines.j0 : Nat → ByteArray → List (S88) → Int → Int → List (S88) → Bool → Option (Bool)
 |0,_,_,_,_,_,_=>none
 |k+1,x0,x3,x4,x5,x6,x42=>if x42=true then(some false)else((laws_markLineS.f k x6 1).bind fun bt260=>((laws_heldLineS.f k bt260.2 1).bind fun t262=>(if t262<0 then(some false)else(if t262=bt260.1 then((impl_LogicalLines.f k x0).bind fun bt263=>((laws_eqLineS.f k bt263.1 x3).bind fun t268=>(if t268=true then(if bt263.2.1=x4 then(laws_FnExactLogicalLines.j1 k bt260.2 bt260.1 (bt263.2.2 !=x5))else(laws_FnExactLogicalLines.j1 k bt260.2 bt260.1 true))else(laws_FnExactLogicalLines.j1 k bt260.2 bt260.1 true))))else(some false)))))
def laws_FnExactLogicalLines.j1 : Nat → List (S88) → Int → Bool → Option (Bool)
 |0,_,_,_=>none
 |k+1,x6,x9,x73=>if x73=true then(some false)else((laws_heldLineS.f k x6 1).bind fun t269=>(if t269<0 then(some false)else(if t269=x9 then(some true)else(some false))))
end
def laws_FnExactLogicalLines.f (k:Nat) (a0:ByteArray):Option (Bool):=if(a0.size:Int)>1048576 then(some true)else((spec_LogicalLines.f k a0).bind fun bt249=>((impl_LogicalLines.f k a0).bind fun bt254=>((laws_eqLineS.f k bt254.1 bt249.1).bind fun t259=>(if t259=true then(if bt254.2.1=bt249.2.1 then(laws_FnExactLogicalLines.j0 k a0 bt249.1 bt249.2.1 bt249.2.2 bt254.1 (bt254.2.2 !=bt249.2.2))else(laws_FnExactLogicalLines.j0 k a0 bt249.1 bt249.2.1 bt249.2.2 bt254.1 true))else(laws_FnExactLogicalLines.j0 k a0 bt249.1 bt249.2.1 bt249.2.2 bt254.1 true)))))
set_option maxHeartbeats 8000000 in
set_option maxRecDepth 100000 in
theorem laws_FnExactLogicalLines.calls (k:Nat) (a0:ByteArray) (r:Bool) (w:World) (h:laws_FnExactLogicalLines.f k a0=some r) (HT:EnvT w):
  Calls Tryd.prog 7 #[.string a0] w fun e w'=>e= .returned (.bool r)∧Below w.heap.size w w':=by
 have HB:=zM (Below.refl w.heap.size w)
 have H:(if(a0.size:Int)>1048576 then(some true)else((spec_LogicalLines.f k a0).bind fun s=>((impl_LogicalLines.f k a0).bind fun q=>((laws_eqLineS.f k q.1 s.1).bind fun E=>(if E=true then(if q.2.1=s.2.1 then(laws_FnExactLogicalLines.j0 k a0 s.1 s.2.1 s.2.2 q.1 (q.2.2 !=s.2.2))else(laws_FnExactLogicalLines.j0 k a0 s.1 s.2.1 s.2.2 q.1 true))else(laws_FnExactLogicalLines.j0 k a0 s.1 s.2.1 s.2.2 q.1 true))))))=some r:=h
 clear h
 by_cases A:(a0.size:Int)>1048576
 ·(
 rw[if_pos A]at H
 have c2b0:decide (1048576<(a0.size:Int))=true:=zT A
 have c2b1:decide (1048576<a0.size)=true:=zT (by omega)
 clear A
 obtain rfl:=zI H
 go_enter Tryd.func7,Tryd.ntmps7
 go_wp2
 go_ret
 exact⟨sq,sb⟩)
 rw[if_neg A]at H
 have c2b0:decide (1048576<(a0.size:Int))=false:=zF A
 have c2b1:decide (1048576<a0.size)=false:=zF (by omega)
 clear A
 replace H:=Option.bind_eq_some_iff.mp H
 obtain⟨⟨i,j,p⟩,al,H⟩:=H
 replace H:((impl_LogicalLines.f k a0).bind fun q=>((laws_eqLineS.f k q.1 i).bind fun E=>(if E=true then(if q.2.1=j then(laws_FnExactLogicalLines.j0 k a0 i j p q.1 (q.2.2 !=p))else(laws_FnExactLogicalLines.j0 k a0 i j p q.1 true))else(laws_FnExactLogicalLines.j0 k a0 i j p q.1 true))))=some r:=H
 have A3:=zM al
 clear al
 replace H:=Option.bind_eq_some_iff.mp H
 obtain⟨⟨b,F,ab⟩,am,H⟩:=H
 replace H:((laws_eqLineS.f k b i).bind fun E=>(if E=true then(if F=j then(laws_FnExactLogicalLines.j0 k a0 i j p b (ab !=p))else(laws_FnExactLogicalLines.j0 k a0 i j p b true))else(laws_FnExactLogicalLines.j0 k a0 i j p b true)))=some r:=H
 have A4:=zM am
 clear am
 have ac:=zM H
 clear H
 go_enter Tryd.func7,Tryd.ntmps7
 go_upto_region 5 with(first|((with_reducible refine gate_callee (f:=24) rfl ?_);refine sC (some 19) Tryd.func24 #[.string a0] (spec_LogicalLines.calls k a0 i j p _ A3.out) ?_;rintro e w6 ⟨an,rfl,u,hb⟩;refine⟨_,rfl,?_⟩;have l:=zM (Kd.R_lower u (below_size (sH HB.out)));replace HB:=sB HB hb;(try clear hb);(try clear u))|((with_reducible refine gate_callee (f:=25) rfl ?_);refine sC (some 25) Tryd.func25 #[.string a0] (impl_LogicalLines.calls k a0 b F ab _ A4.out (by first|with_reducible exact HT|exact EnvT.below HT sb)) ?_;rintro e w7 ⟨ao,rfl,u,hb⟩;refine⟨_,rfl,?_⟩;have n:=zM (Kd.R_lower (Kd.R_new' u (Kd.R_lt (sE l.out))) (below_size (sH HB.out)));replace l:=zM (Kd.R_elder' (sE l.out) (Kd.R_base u) hb);replace HB:=sB HB hb;(try clear hb);(try clear u)))
 (try simp only[zP])
 go_cut [42] (fun au wc=>∃(kq:Nat) (W:Bool),au= .bool W∧Aside0 (laws_FnExactLogicalLines.j0 kq a0 i j p b W=some r)∧Aside0 (kq≤k)∧Aside0 (Kd.R k88 88 wc w.heap.size (fun g=>some g≠(ao:Value).ownBlock) an i)∧Aside0 (Kd.R k88 88 wc w.heap.size (fun g=>some g≠(an:Value).ownBlock) ao b)∧Aside0 (Below w.heap.size w wc))
 case first=>(
 have H:=ac.out
 clear ac
 obtain⟨E,A8,H⟩:=sO H
 by_cases X:E=true
 ·(
 subst X
 rewrite[if_pos rfl]at H
 by_cases G:F=j
 ·(
 rw[if_pos G]at H
 have c10b0:(F==j)=true:=zE G
 have c10b1:(F !=j)=false:=zY G
 clear G
 (first|rw[c10b0]|(simp only[i64_w,i32_w];rw[c10b0])|rw[c10b2]|skip)
 have H':=zM H
 clear H
 obtain⟨av,aw,ax⟩:=Kd.R_slice n.out
 subst ax
 obtain⟨ay,az,aA⟩:=Kd.R_slice l.out
 subst aA
 go_wp2_with (first|((with_reducible refine gate_callee (f:=26) rfl ?_);refine sC (some 31) Tryd.func26 #[.slice av b.length aw,.slice ay i.length az] (laws_eqLineS.calls k _ _ b _ _ i true _ ?side1 ?side2 ?side3 ?side4 A8.out) ?_;(case side1=>exact sD ((Kd.R_reads' n.out).2.2));(case side2=>exact(Kd.R_reads' n.out).2.1);(case side3=>exact sD ((Kd.R_reads' l.out).2.2));(case side4=>exact(Kd.R_reads' l.out).2.1);rintro e bb ⟨rfl,hb⟩;refine⟨_,rfl,?_⟩;replace l:=zM (Kd.R_below (sE l.out) hb);replace n:=zM (Kd.R_below (sE n.out) hb);replace HB:=sB HB hb;(try clear hb)))
 go_meet
 case rel=>exact⟨_,((ab !=p)),sr,H',⟨by first|omega|exact Nat.le_refl _⟩,⟨by(with_reducible repeat(first|apply Kd.R_alloc|apply Kd.R_drewN|apply Kd.R_drew));exact Kd.R_mono l.out (fun _ hk=>hk.2)⟩,⟨by(with_reducible repeat(first|apply Kd.R_alloc|apply Kd.R_drewN|apply Kd.R_drew));exact Kd.R_mono n.out (fun _ hk=>hk.2)⟩,⟨sb⟩⟩)
 rw[if_neg G]at H
 have c10b0:(F==j)=false:=zN G
 have c10b1:(F !=j)=true:=zX G
 (first|rw[c10b0]|(simp only[i64_w,i32_w];rw[c10b0])|rw[c10b2]|skip)
 have H':=zM H
 clear H
 obtain⟨aB,aC,aD⟩:=Kd.R_slice n.out
 subst aD
 obtain⟨aE,aF,aG⟩:=Kd.R_slice l.out
 subst aG
 go_wp2_with (first|((with_reducible refine gate_callee (f:=26) rfl ?_);refine sC (some 31) Tryd.func26 #[.slice aB b.length aC,.slice aE i.length aF] (laws_eqLineS.calls k _ _ b _ _ i true _ ?side1 ?side2 ?side3 ?side4 A8.out) ?_;(case side1=>exact sD ((Kd.R_reads' n.out).2.2));(case side2=>exact(Kd.R_reads' n.out).2.1);(case side3=>exact sD ((Kd.R_reads' l.out).2.2));(case side4=>exact(Kd.R_reads' l.out).2.1);rintro e bc ⟨rfl,hb⟩;refine⟨_,rfl,?_⟩;replace l:=zM (Kd.R_below (sE l.out) hb);replace n:=zM (Kd.R_below (sE n.out) hb);replace HB:=sB HB hb;(try clear hb)))
 go_meet
 case rel=>exact⟨_,(true),sr,H',⟨by first|omega|exact Nat.le_refl _⟩,⟨by(with_reducible repeat(first|apply Kd.R_alloc|apply Kd.R_drewN|apply Kd.R_drew));exact Kd.R_mono l.out (fun _ hk=>hk.2)⟩,⟨by(with_reducible repeat(first|apply Kd.R_alloc|apply Kd.R_drewN|apply Kd.R_drew));exact Kd.R_mono n.out (fun _ hk=>hk.2)⟩,⟨sb⟩⟩)
 replace X:=zB X
 subst X
 rewrite[if_neg zQ]at H
 have H':=zM H
 clear H
 obtain⟨aH,aI,aJ⟩:=Kd.R_slice n.out
 subst aJ
 obtain⟨aK,aL,aM⟩:=Kd.R_slice l.out
 subst aM
 go_wp2_with (first|((with_reducible refine gate_callee (f:=26) rfl ?_);refine sC (some 31) Tryd.func26 #[.slice aH b.length aI,.slice aK i.length aL] (laws_eqLineS.calls k _ _ b _ _ i false _ ?side1 ?side2 ?side3 ?side4 A8.out) ?_;(case side1=>exact sD ((Kd.R_reads' n.out).2.2));(case side2=>exact(Kd.R_reads' n.out).2.1);(case side3=>exact sD ((Kd.R_reads' l.out).2.2));(case side4=>exact(Kd.R_reads' l.out).2.1);rintro e bd ⟨rfl,hb⟩;refine⟨_,rfl,?_⟩;replace l:=zM (Kd.R_below (sE l.out) hb);replace n:=zM (Kd.R_below (sE n.out) hb);replace HB:=sB HB hb;(try clear hb)))
 go_meet
 case rel=>exact⟨_,(true),sr,H',⟨by first|omega|exact Nat.le_refl _⟩,⟨by(with_reducible repeat(first|apply Kd.R_alloc|apply Kd.R_drewN|apply Kd.R_drew));exact Kd.R_mono l.out (fun _ hk=>hk.2)⟩,⟨by(with_reducible repeat(first|apply Kd.R_alloc|apply Kd.R_drewN|apply Kd.R_drew));exact Kd.R_mono n.out (fun _ hk=>hk.2)⟩,⟨sb⟩⟩)
 case rest=>(
 clear ac
 try clear A
 try clear c2b0
 try clear c2b1
 obtain⟨kq,W,rfl,HA,ad,c,a,HB⟩:=hcut
 cases kq with
 |zero=>exact absurd HA.out (by simp[laws_FnExactLogicalLines.j0])
 |succ kj4=>(
 have H:=HA.out
 clear HA
 simp only[laws_FnExactLogicalLines.j0]at H
 by_cases N:W=true
 ·(
 subst N
 rewrite[if_pos rfl]at H
 obtain rfl:=zI H
 go_wp2
 go_ret
 exact⟨sq,sb⟩)
 replace N:=zB N
 subst N
 rewrite[if_neg zQ]at H
 replace H:=Option.bind_eq_some_iff.mp H
 obtain⟨⟨m,d⟩,ap,H⟩:=H
 replace H:((laws_heldLineS.f kj4 d 1).bind fun t=>(if t<0 then(some false)else(if t=m then((impl_LogicalLines.f kj4 a0).bind fun ae=>((laws_eqLineS.f kj4 ae.1 i).bind fun O=>(if O=true then(if ae.2.1=j then(laws_FnExactLogicalLines.j1 kj4 d m (ae.2.2 !=p))else(laws_FnExactLogicalLines.j1 kj4 d m true))else(laws_FnExactLogicalLines.j1 kj4 d m true))))else(some false))))=some r:=H
 have af:=zM ap
 clear ap
 obtain⟨t,ag,H⟩:=sO H
 by_cases I:t<0
 ·(
 rw[if_pos I]at H
 have c23b0:=zT I
 clear I
 obtain rfl:=zI H
 obtain⟨P,Q,aN⟩:=Kd.R_slice a.out
 subst aN
 go_wp2_with (first|((with_reducible refine gate_callee (f:=27) rfl ?_);refine sC (some 45) Tryd.func27 #[.slice P b.length Q,.int .i64 1] (laws_markLineS.calls kj4 (fun g=>some g=(.slice P b.length Q:Value).ownBlock) (.slice P b.length Q) b 1 m d w _ ?side1 ?side2 af.out) ?_;(case side1=>repeat(first|(with_reducible first|exact HB.out|apply below_alloc|apply pw_below_drewN|apply below_drew1)|exact HB.out));(case side2=>exact Kd.R_tight rfl a.out);rintro e be ⟨rfl,B,hb,hkp⟩;refine⟨_,rfl,?_⟩;replace c:=zM (Kd.R_mono (ok':=fun g=>some g≠(.slice P b.length Q:Value).ownBlock) (Kd.R_keptB (c.out) hkp (fun g v S=>(v) S)) (fun g v=>v.1));replace a:=zM (Kd.R_reok rfl B (fun g T=>a.out.1 g T));replace HB:=zM (hb);(try clear hb);(try clear hkp);(try clear B))|((with_reducible refine gate_callee (f:=28) rfl ?_);refine goesL_ (some 48) rfl rfl Tryd.func28 (by kernel_rfl) rfl #[.slice P d.length Q,.int .i64 1] rfl (by(try simp only[List.map_toArray,List.map_cons,List.map_nil]);first|done|(rw[show d.length=b.length from(Kd.R_reads' a.out).1.symm]<;>rfl)|rfl|(simp only[List.length_drop,List.length_take];rfl)) ?_;(with_reducible refine(laws_heldLineS.calls kj4 _ _ d 1 t _ ?side1 ?side2 ag.out).mono ?_);(case side1=>exact sD ((Kd.R_reads' a.out).2.2));(case side2=>rw[show d.length=b.length from(Kd.R_reads' a.out).1.symm];exact(Kd.R_reads' a.out).2.1);rintro e bf ⟨rfl,hb⟩;refine⟨_,rfl,?_⟩;replace c:=zM (Kd.R_below (sE c.out) hb);replace a:=zM (Kd.R_below (sE a.out) hb);replace HB:=sB HB hb;(try clear hb)))
 go_ret
 exact⟨sq,sb⟩)
 rw[if_neg I]at H
 have c23b0:=zF I
 clear I
 by_cases C:t=m
 ·(
 rw[if_pos C]at H
 have c27b0:(t==m)=true:=zE C
 have c27b1:(t !=m)=false:=zY C
 clear C
 replace H:=Option.bind_eq_some_iff.mp H
 obtain⟨⟨D,J,ah⟩,aq,H⟩:=H
 replace H:((laws_eqLineS.f kj4 D i).bind fun O=>(if O=true then(if J=j then(laws_FnExactLogicalLines.j1 kj4 d m (ah !=p))else(laws_FnExactLogicalLines.j1 kj4 d m true))else(laws_FnExactLogicalLines.j1 kj4 d m true)))=some r:=H
 have aO:=zM aq
 clear aq
 have ai:=zM H
 clear H
 obtain⟨x,y,aP⟩:=Kd.R_slice a.out
 subst aP
 go_upto_region 16 with(first|((with_reducible refine gate_callee (f:=27) rfl ?_);refine sC (some 45) Tryd.func27 #[.slice x b.length y,.int .i64 1] (laws_markLineS.calls kj4 (fun g=>some g=(.slice x b.length y:Value).ownBlock) (.slice x b.length y) b 1 m d w _ ?side1 ?side2 af.out) ?_;(case side1=>repeat(first|(with_reducible first|exact HB.out|apply below_alloc|apply pw_below_drewN|apply below_drew1)|exact HB.out));(case side2=>exact Kd.R_tight rfl a.out);rintro e bg ⟨rfl,B,hb,hkp⟩;refine⟨_,rfl,?_⟩;replace c:=zM (Kd.R_mono (ok':=fun g=>some g≠(.slice x b.length y:Value).ownBlock) (Kd.R_keptB (c.out) hkp (fun g v S=>(v) S)) (fun g v=>v.1));replace a:=zM (Kd.R_reok rfl B (fun g T=>a.out.1 g T));replace HB:=zM (hb);(try clear hb);(try clear hkp);(try clear B))|((with_reducible refine gate_callee (f:=28) rfl ?_);refine goesL_ (some 48) rfl rfl Tryd.func28 (by kernel_rfl) rfl #[.slice x d.length y,.int .i64 1] rfl (by(try simp only[List.map_toArray,List.map_cons,List.map_nil]);first|done|(rw[show d.length=b.length from(Kd.R_reads' a.out).1.symm]<;>rfl)|rfl|(simp only[List.length_drop,List.length_take];rfl)) ?_;(with_reducible refine(laws_heldLineS.calls kj4 _ _ d 1 t _ ?side1 ?side2 ag.out).mono ?_);(case side1=>exact sD ((Kd.R_reads' a.out).2.2));(case side2=>rw[show d.length=b.length from(Kd.R_reads' a.out).1.symm];exact(Kd.R_reads' a.out).2.1);rintro e bh ⟨rfl,hb⟩;refine⟨_,rfl,?_⟩;replace c:=zM (Kd.R_below (sE c.out) hb);replace a:=zM (Kd.R_below (sE a.out) hb);replace HB:=sB HB hb;(try clear hb))|((with_reducible refine gate_callee (f:=25) rfl ?_);refine sC (some 56) Tryd.func25 #[.string a0] (impl_LogicalLines.calls kj4 a0 D J ah _ aO.out (by first|with_reducible exact HT|exact EnvT.below HT sb)) ?_;rintro e bi ⟨bj,rfl,u,hb⟩;refine⟨_,rfl,?_⟩;have o:=zM (Kd.R_lower (Kd.R_new' (Kd.R_new' u (Kd.R_lt (sE c.out))) (Kd.R_lt (sE a.out))) (below_size (sH HB.out)));replace c:=zM (Kd.R_elder' (sE c.out) (Kd.R_base u) hb);replace a:=zM (Kd.R_elder' (sE a.out) (Kd.R_base u) hb);replace HB:=sB HB hb;(try clear hb);(try clear u)))
 (try simp only[zP])
 go_cut [73] (fun aQ wc=>∃(kq:Nat) (Y:Bool),aQ= .bool Y∧Aside0 (laws_FnExactLogicalLines.j1 kq d m Y=some r)∧Aside0 (kq≤kj4)∧Aside0 (Kd.R k88 88 wc w.heap.size (fun _=>True) (.slice x b.length y) d)∧Aside0 (Below w.heap.size w wc))
 case first=>(
 have H:=ai.out
 clear ai
 obtain⟨O,aj,H⟩:=sO H
 by_cases Z:O=true
 ·(
 subst Z
 rewrite[if_pos rfl]at H
 by_cases K:J=j
 ·(
 rw[if_pos K]at H
 have c36b0:(J==j)=true:=zE K
 have c36b1:(J !=j)=false:=zY K
 clear K
 (first|rw[c36b0]|(simp only[i64_w,i32_w];rw[c36b0])|rw[c36b2]|skip)
 have H':=zM H
 clear H
 obtain⟨aR,aS,aT⟩:=Kd.R_slice o.out
 subst aT
 obtain⟨aU,aV,aW⟩:=Kd.R_slice c.out
 subst aW
 go_wp2_with (first|((with_reducible refine gate_callee (f:=26) rfl ?_);refine sC (some 62) Tryd.func26 #[.slice aR D.length aS,.slice aU i.length aV] (laws_eqLineS.calls kj4 _ _ D _ _ i true _ ?side1 ?side2 ?side3 ?side4 aj.out) ?_;(case side1=>exact sD ((Kd.R_reads' o.out).2.2));(case side2=>exact(Kd.R_reads' o.out).2.1);(case side3=>exact sD ((Kd.R_reads' c.out).2.2));(case side4=>exact(Kd.R_reads' c.out).2.1);rintro e bk ⟨rfl,hb⟩;refine⟨_,rfl,?_⟩;replace c:=zM (Kd.R_below (sE c.out) hb);replace a:=zM (Kd.R_below (sE a.out) hb);replace o:=zM (Kd.R_below (sE o.out) hb);replace HB:=sB HB hb;(try clear hb)))
 go_meet
 case rel=>exact⟨_,((ah !=p)),sr,H',⟨by have:=ad.out;first|omega|exact Nat.le_refl _⟩,⟨by(with_reducible repeat(first|apply Kd.R_alloc|apply Kd.R_drewN|apply Kd.R_drew));exact Kd.R_mono a.out (fun _ hk=>trivial)⟩,⟨sb⟩⟩)
 rw[if_neg K]at H
 have c36b0:(J==j)=false:=zN K
 have c36b1:(J !=j)=true:=zX K
 (first|rw[c36b0]|(simp only[i64_w,i32_w];rw[c36b0])|rw[c36b2]|skip)
 have H':=zM H
 clear H
 obtain⟨aX,aY,aZ⟩:=Kd.R_slice o.out
 subst aZ
 obtain⟨a1,a2,a3⟩:=Kd.R_slice c.out
 subst a3
 go_wp2_with (first|((with_reducible refine gate_callee (f:=26) rfl ?_);refine sC (some 62) Tryd.func26 #[.slice aX D.length aY,.slice a1 i.length a2] (laws_eqLineS.calls kj4 _ _ D _ _ i true _ ?side1 ?side2 ?side3 ?side4 aj.out) ?_;(case side1=>exact sD ((Kd.R_reads' o.out).2.2));(case side2=>exact(Kd.R_reads' o.out).2.1);(case side3=>exact sD ((Kd.R_reads' c.out).2.2));(case side4=>exact(Kd.R_reads' c.out).2.1);rintro e bl ⟨rfl,hb⟩;refine⟨_,rfl,?_⟩;replace c:=zM (Kd.R_below (sE c.out) hb);replace a:=zM (Kd.R_below (sE a.out) hb);replace o:=zM (Kd.R_below (sE o.out) hb);replace HB:=sB HB hb;(try clear hb)))
 go_meet
 case rel=>exact⟨_,(true),sr,H',⟨by have:=ad.out;first|omega|exact Nat.le_refl _⟩,⟨by(with_reducible repeat(first|apply Kd.R_alloc|apply Kd.R_drewN|apply Kd.R_drew));exact Kd.R_mono a.out (fun _ hk=>trivial)⟩,⟨sb⟩⟩)
 replace Z:=zB Z
 subst Z
 rewrite[if_neg zQ]at H
 have H':=zM H
 clear H
 obtain⟨a4,a5,a6⟩:=Kd.R_slice o.out
 subst a6
 obtain⟨a7,a8,a9⟩:=Kd.R_slice c.out
 subst a9
 go_wp2_with (first|((with_reducible refine gate_callee (f:=26) rfl ?_);refine sC (some 62) Tryd.func26 #[.slice a4 D.length a5,.slice a7 i.length a8] (laws_eqLineS.calls kj4 _ _ D _ _ i false _ ?side1 ?side2 ?side3 ?side4 aj.out) ?_;(case side1=>exact sD ((Kd.R_reads' o.out).2.2));(case side2=>exact(Kd.R_reads' o.out).2.1);(case side3=>exact sD ((Kd.R_reads' c.out).2.2));(case side4=>exact(Kd.R_reads' c.out).2.1);rintro e bm ⟨rfl,hb⟩;refine⟨_,rfl,?_⟩;replace c:=zM (Kd.R_below (sE c.out) hb);replace a:=zM (Kd.R_below (sE a.out) hb);replace o:=zM (Kd.R_below (sE o.out) hb);replace HB:=sB HB hb;(try clear hb)))
 go_meet
 case rel=>exact⟨_,(true),sr,H',⟨by have:=ad.out;first|omega|exact Nat.le_refl _⟩,⟨by(with_reducible repeat(first|apply Kd.R_alloc|apply Kd.R_drewN|apply Kd.R_drew));exact Kd.R_mono a.out (fun _ hk=>trivial)⟩,⟨sb⟩⟩)
 case rest=>(
 clear ai
 try clear A
 try clear c2b0
 try clear c2b1
 try clear N
 try clear I
 try clear c23b0
 try clear C
 try clear c27b0
 try clear c27b1
 obtain⟨kq,Y,rfl,HA,bn,a,HB⟩:=hcut
 have ar:=(Kd.R_reads' a.out).1
 rw[ar]at a
 (try simp only[ar])
 cases kq with
 |zero=>exact absurd HA.out (by simp[laws_FnExactLogicalLines.j1])
 |succ kj28=>(
 have H:=HA.out
 clear HA
 simp only[laws_FnExactLogicalLines.j1]at H
 by_cases aa:Y=true
 ·(
 subst aa
 rewrite[if_pos rfl]at H
 obtain rfl:=zI H
 go_wp2
 go_ret
 exact⟨sq,sb⟩)
 replace aa:=zB aa
 subst aa
 rewrite[if_neg zQ]at H
 obtain⟨z,ak,H⟩:=sO H
 by_cases M:z<0
 ·(
 rw[if_pos M]at H
 have c48b0:=zT M
 clear M
 obtain rfl:=zI H
 go_wp2_with (first|((with_reducible refine gate_callee (f:=28) rfl ?_);refine sC (some 76) Tryd.func28 #[.slice x d.length y,.int .i64 1] (laws_heldLineS.calls kj28 _ _ d 1 z _ ?side1 ?side2 ak.out) ?_;(case side1=>exact sD ((Kd.R_reads' a.out).2.2));(case side2=>exact(Kd.R_reads' a.out).2.1);rintro e bo ⟨rfl,hb⟩;refine⟨_,rfl,?_⟩;replace a:=zM (Kd.R_below (sE a.out) hb);replace HB:=sB HB hb;(try clear hb)))
 go_ret
 exact⟨sq,sb⟩)
 rw[if_neg M]at H
 have c48b0:=zF M
 clear M
 by_cases L:z=m
 ·(
 rw[if_pos L]at H
 have c50b0:(z==m)=true:=zE L
 have c50b1:(z !=m)=false:=zY L
 clear L
 obtain rfl:=zI H
 go_wp2_with (first|((with_reducible refine gate_callee (f:=28) rfl ?_);refine sC (some 76) Tryd.func28 #[.slice x d.length y,.int .i64 1] (laws_heldLineS.calls kj28 _ _ d 1 z _ ?side1 ?side2 ak.out) ?_;(case side1=>exact sD ((Kd.R_reads' a.out).2.2));(case side2=>exact(Kd.R_reads' a.out).2.1);rintro e bp ⟨rfl,hb⟩;refine⟨_,rfl,?_⟩;replace a:=zM (Kd.R_below (sE a.out) hb);replace HB:=sB HB hb;(try clear hb)))
 go_ret
 exact⟨sq,sb⟩)
 rw[if_neg L]at H
 have c50b0:(z==m)=false:=zN L
 have c50b1:(z !=m)=true:=zX L
 obtain rfl:=zI H
 go_wp2_with (first|((with_reducible refine gate_callee (f:=28) rfl ?_);refine sC (some 76) Tryd.func28 #[.slice x d.length y,.int .i64 1] (laws_heldLineS.calls kj28 _ _ d 1 z _ ?side1 ?side2 ak.out) ?_;(case side1=>exact sD ((Kd.R_reads' a.out).2.2));(case side2=>exact(Kd.R_reads' a.out).2.1);rintro e bq ⟨rfl,hb⟩;refine⟨_,rfl,?_⟩;replace a:=zM (Kd.R_below (sE a.out) hb);replace HB:=sB HB hb;(try clear hb)))
 go_ret
 exact⟨sq,sb⟩)))
 rw[if_neg C]at H
 have c27b0:(t==m)=false:=zN C
 have c27b1:(t !=m)=true:=zX C
 obtain rfl:=zI H
 obtain⟨U,V,ba⟩:=Kd.R_slice a.out
 subst ba
 go_wp2_with (first|((with_reducible refine gate_callee (f:=27) rfl ?_);refine sC (some 45) Tryd.func27 #[.slice U b.length V,.int .i64 1] (laws_markLineS.calls kj4 (fun g=>some g=(.slice U b.length V:Value).ownBlock) (.slice U b.length V) b 1 m d w _ ?side1 ?side2 af.out) ?_;(case side1=>repeat(first|(with_reducible first|exact HB.out|apply below_alloc|apply pw_below_drewN|apply below_drew1)|exact HB.out));(case side2=>exact Kd.R_tight rfl a.out);rintro e br ⟨rfl,B,hb,hkp⟩;refine⟨_,rfl,?_⟩;replace c:=zM (Kd.R_mono (ok':=fun g=>some g≠(.slice U b.length V:Value).ownBlock) (Kd.R_keptB (c.out) hkp (fun g v S=>(v) S)) (fun g v=>v.1));replace a:=zM (Kd.R_reok rfl B (fun g T=>a.out.1 g T));replace HB:=zM (hb);(try clear hb);(try clear hkp);(try clear B))|((with_reducible refine gate_callee (f:=28) rfl ?_);refine goesL_ (some 48) rfl rfl Tryd.func28 (by kernel_rfl) rfl #[.slice U d.length V,.int .i64 1] rfl (by(try simp only[List.map_toArray,List.map_cons,List.map_nil]);first|done|(rw[show d.length=b.length from(Kd.R_reads' a.out).1.symm]<;>rfl)|rfl|(simp only[List.length_drop,List.length_take];rfl)) ?_;(with_reducible refine(laws_heldLineS.calls kj4 _ _ d 1 t _ ?side1 ?side2 ag.out).mono ?_);(case side1=>exact sD ((Kd.R_reads' a.out).2.2));(case side2=>rw[show d.length=b.length from(Kd.R_reads' a.out).1.symm];exact(Kd.R_reads' a.out).2.1);rintro e bs ⟨rfl,hb⟩;refine⟨_,rfl,?_⟩;replace c:=zM (Kd.R_below (sE c.out) hb);replace a:=zM (Kd.R_below (sE a.out) hb);replace HB:=sB HB hb;(try clear hb)))
 go_ret
 exact⟨sq,sb⟩))
end Go.Proofs.YtjmojijopammjaaDoor.PFnExactLogicalLines
