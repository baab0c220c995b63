/- Printed functions: spec_SameScope. -/
import Derived.Test.YtnneadpahjkhgaaYSmP0
import Derived.Test.YtnneadpahjkhgaaYSmP17
namespace Go.Proofs.Ytnneadpahjkhgaa.PFnExactSameMemory
open Go.RowKit Go.Proofs.YtnneadpahjkhgaaG Go.Proofs.YtnneadpahjkhgaaW.PrintWords Go.Proofs.YtnneadpahjkhgaaW.PrintLast Go.Proofs.YtnneadpahjkhgaaW.PrintMore
attribute [local go_sem] max2_int min2_int max_two min_two max_three min_three max_four min_four
set_option linter.unusedVariables false
set_option linter.unusedSimpArgs false
mutual
def spec_SameScope.j0 : Nat → Bool → List (S116) → List (S107) → List (S109) → List (S116) → List (S107) → List (S109) → Option (Bool)
 |0,_,_,_,_,_,_,_=>none
 |k+1,x32,x349000,x349001,x349002,x350000,x350001,x350002=>if x32=true then(some false)else(spec_SameScope.l0 k 0 x349000 x349001 x349002 x350000 x350001 x350002)
def spec_SameScope.l0 : Nat → Int → List (S116) → List (S107) → List (S109) → List (S116) → List (S107) → List (S109) → Option (Bool)
 |0,_,_,_,_,_,_,_=>none
 |k+1,x5,x349000,x349001,x349002,x350000,x350001,x350002=>if x5<(x349001.length:Int)then(if 0≤x5 then(if x5<(x350001.length:Int)then(if((rd_T107 x349001 x5).f0).toList=((rd_T107 x350001 x5).f0).toList then(if((rd_T107 x349001 x5).f3).toList=((rd_T107 x350001 x5).f3).toList then((spec_l18SameTexts.f k ((rd_T107 x349001 x5).f1) ((rd_T107 x350001 x5).f1)).bind fun t355=>(if t355=true then((spec_l18SameTexts.f k ((rd_T107 x349001 x5).f2) ((rd_T107 x350001 x5).f2)).bind fun t356=>(spec_SameScope.j2 k x5 (!t356) x349000 x349001 x349002 x350000 x350001 x350002))else(spec_SameScope.j2 k x5 true x349000 x349001 x349002 x350000 x350001 x350002)))else(spec_SameScope.j2 k x5 true x349000 x349001 x349002 x350000 x350001 x350002))else(spec_SameScope.j2 k x5 true x349000 x349001 x349002 x350000 x350001 x350002))else(none))else(none))else(spec_SameScope.l1 k 0 x349000 x349001 x349002 x350000 x350001 x350002)
def spec_SameScope.j2 : Nat → Int → Bool → List (S116) → List (S107) → List (S109) → List (S116) → List (S107) → List (S109) → Option (Bool)
 |0,_,_,_,_,_,_,_,_=>none
 |k+1,x5,x77,x349000,x349001,x349002,x350000,x350001,x350002=>if x77=true then(some false)else(spec_SameScope.l0 k (wrap64 (x5+1)) x349000 x349001 x349002 x350000 x350001 x350002)
def spec_SameScope.l1 : Nat → Int → List (S116) → List (S107) → List (S109) → List (S116) → List (S107) → List (S109) → Option (Bool)
 |0,_,_,_,_,_,_,_=>none
 |k+1,x8,x349000,x349001,x349002,x350000,x350001,x350002=>if x8<(x349002.length:Int)then(if 0≤x8 then(if x8<(x350002.length:Int)then(if((rd_T109 x349002 x8).f0).toList=((rd_T109 x350002 x8).f0).toList then((spec_l18SameTexts.f k ((rd_T109 x349002 x8).f1) ((rd_T109 x350002 x8).f1)).bind fun t361=>(spec_SameScope.j4 k x8 (!t361) x349000 x349001 x349002 x350000 x350001 x350002))else(spec_SameScope.j4 k x8 true x349000 x349001 x349002 x350000 x350001 x350002))else(none))else(none))else(some true)
def spec_SameScope.j4 : Nat → Int → Bool → List (S116) → List (S107) → List (S109) → List (S116) → List (S107) → List (S109) → Option (Bool)
 |0,_,_,_,_,_,_,_,_=>none
 |k+1,x8,x113,x349000,x349001,x349002,x350000,x350001,x350002=>if x113=true then(some false)else(spec_SameScope.l1 k (wrap64 (x8+1)) x349000 x349001 x349002 x350000 x350001 x350002)
end
def spec_SameScope.f (k:Nat) (l0_0:List (S116)) (l0_1:List (S107)) (l0_2:List (S109)) (l1_0:List (S116)) (l1_1:List (S107)) (l1_2:List (S109)):Option (Bool):=(spec_l18SameBindings.f k l0_0 l1_0).bind fun t350=>(if t350=true then(if(l0_1.length:Int)=(l1_1.length:Int)then(spec_SameScope.j0 k ((l0_2.length:Int) !=(l1_2.length:Int)) l0_0 l0_1 l0_2 l1_0 l1_1 l1_2)else(spec_SameScope.j0 k true l0_0 l0_1 l0_2 l1_0 l1_1 l1_2))else(spec_SameScope.j0 k true l0_0 l0_1 l0_2 l1_0 l1_1 l1_2))
set_option maxHeartbeats 8000000 in
set_option maxRecDepth 100000 in
theorem spec_SameScope.calls (k:Nat) (A0_0:Option Addr) (c0_0:Nat) (l0_0:List (S116)) (A0_1:Option Addr) (c0_1:Nat) (l0_1:List (S107)) (A0_2:Option Addr) (c0_2:Nat) (l0_2:List (S109)) (A1_0:Option Addr) (c1_0:Nat) (l1_0:List (S116)) (A1_1:Option Addr) (c1_1:Nat) (l1_1:List (S107)) (A1_2:Option Addr) (c1_2:Nat) (l1_2:List (S109)) (r:Bool) (w:World) (hr0_0:Kd.C k116 w A0_0 l0_0.length l0_0) (hc0_0:l0_0.length≤c0_0) (hr0_1:Kd.C k107 w A0_1 l0_1.length l0_1) (hc0_1:l0_1.length≤c0_1) (hr0_2:Kd.C k109 w A0_2 l0_2.length l0_2) (hc0_2:l0_2.length≤c0_2) (hr1_0:Kd.C k116 w A1_0 l1_0.length l1_0) (hc1_0:l1_0.length≤c1_0) (hr1_1:Kd.C k107 w A1_1 l1_1.length l1_1) (hc1_1:l1_1.length≤c1_1) (hr1_2:Kd.C k109 w A1_2 l1_2.length l1_2) (hc1_2:l1_2.length≤c1_2) (h:spec_SameScope.f k l0_0 l0_1 l0_2 l1_0 l1_1 l1_2=some r):
  Calls Try.prog 21 #[.agg #[.slice A0_0 l0_0.length c0_0,.slice A0_1 l0_1.length c0_1,.slice A0_2 l0_2.length c0_2],.agg #[.slice A1_0 l1_0.length c1_0,.slice A1_1 l1_1.length c1_1,.slice A1_2 l1_2.length c1_2]] w fun e w'=>e= .returned (.bool r)∧Below w.heap.size w w':=by
 have dm:=Try.underlying57
 have dn:=Try.underlying107
 have ad:=zM hr0_0
 have ae:=zM hc0_0
 clear hr0_0 hc0_0
 have cS:=zM hr0_1
 have dp:=zM hc0_1
 clear hr0_1 hc0_1
 have bl:=zM hr0_2
 have dq:=zM hc0_2
 clear hr0_2 hc0_2
 have af:=zM hr1_0
 have ag:=zM hc1_0
 clear hr1_0 hc1_0
 have bm:=zM hr1_1
 have dr:=zM hc1_1
 clear hr1_1 hc1_1
 have bn:=zM hr1_2
 have ds:=zM hc1_2
 clear hr1_2 hc1_2
 have HB:=zM (Below.refl w.heap.size w)
 have H:((spec_l18SameBindings.f k l0_0 l1_0).bind fun bo=>(if bo=true then(if(l0_1.length:Int)=(l1_1.length:Int)then(spec_SameScope.j0 k ((l0_2.length:Int) !=(l1_2.length:Int)) l0_0 l0_1 l0_2 l1_0 l1_1 l1_2)else(spec_SameScope.j0 k true l0_0 l0_1 l0_2 l1_0 l1_1 l1_2))else(spec_SameScope.j0 k true l0_0 l0_1 l0_2 l1_0 l1_1 l1_2)))=some r:=h
 clear h
 have bp:=zM H
 clear H
 go_enter Try.func21,Try.ntmps21
 go_upto_region 1 with(first|((with_reducible refine gate_dst (N:=2) rfl ?_);(try(refine gate_guard (by rfl) ?_;dsimp only));refine sV (N:=2) (cs:= #[.slice A0_0 l0_0.length c0_0,.slice A0_1 l0_1.length c0_1,.slice A0_2 l0_2.length c0_2]) (t:=57) ?_;intro K hg w4 hbox hb;have b:=zM (hbox);have cf:=sG HB hg;have O:=sG HB hg;replace HB:=sB HB hb;clear hb hbox hg)|((with_reducible refine gate_dst (N:=3) rfl ?_);(try(refine gate_guard (by rfl) ?_;dsimp only));refine sV (N:=3) (cs:= #[.slice A1_0 l1_0.length c1_0,.slice A1_1 l1_1.length c1_1,.slice A1_2 l1_2.length c1_2]) (t:=57) ?_;intro L hg w5 hbox hb;have c:=zM (hbox);have cg:=sG HB hg;have P:=sG HB hg;replace HB:=sB HB hb;have X:=sN b hg;have Y:=sM b hg;replace b:=sK b hb;clear hb hbox hg))
 repeat(go_quiet (first|((with_reducible refine gate_dst (N:=2) rfl ?_);(try(refine gate_guard (by rfl) ?_;dsimp only));refine sV (N:=2) (cs:= #[.slice A0_0 l0_0.length c0_0,.slice A0_1 l0_1.length c0_1,.slice A0_2 l0_2.length c0_2]) (t:=57) ?_;intro K hg w4 hbox hb;have b:=zM (hbox);have cf:=sG HB hg;have O:=sG HB hg;replace HB:=sB HB hb;clear hb hbox hg)|((with_reducible refine gate_dst (N:=3) rfl ?_);(try(refine gate_guard (by rfl) ?_;dsimp only));refine sV (N:=3) (cs:= #[.slice A1_0 l1_0.length c1_0,.slice A1_1 l1_1.length c1_1,.slice A1_2 l1_2.length c1_2]) (t:=57) ?_;intro L hg w5 hbox hb;have c:=zM (hbox);have cg:=sG HB hg;have P:=sG HB hg;replace HB:=sB HB hb;have X:=sN b hg;have Y:=sM b hg;replace b:=sK b hb;clear hb hbox hg));go_upto_region 1 with(first|((with_reducible refine gate_dst (N:=2) rfl ?_);(try(refine gate_guard (by rfl) ?_;dsimp only));refine sV (N:=2) (cs:= #[.slice A0_0 l0_0.length c0_0,.slice A0_1 l0_1.length c0_1,.slice A0_2 l0_2.length c0_2]) (t:=57) ?_;intro K hg w4 hbox hb;have b:=zM (hbox);have cf:=sG HB hg;have O:=sG HB hg;replace HB:=sB HB hb;clear hb hbox hg)|((with_reducible refine gate_dst (N:=3) rfl ?_);(try(refine gate_guard (by rfl) ?_;dsimp only));refine sV (N:=3) (cs:= #[.slice A1_0 l1_0.length c1_0,.slice A1_1 l1_1.length c1_1,.slice A1_2 l1_2.length c1_2]) (t:=57) ?_;intro L hg w5 hbox hb;have c:=zM (hbox);have cg:=sG HB hg;have P:=sG HB hg;replace HB:=sB HB hb;have X:=sN b hg;have Y:=sM b hg;replace b:=sK b hb;clear hb hbox hg)))
 (try simp only[zP])
 go_cut [32] (fun cT wc=>∃(kq:Nat) (a8:Bool),cT= .bool a8∧Aside0 (spec_SameScope.j0 kq a8 l0_0 l0_1 l0_2 l1_0 l1_1 l1_2=some r)∧Aside0 (kq≤k)∧Aside0 (wc.heap[K]?=some (.cells #[(.slice A0_0 l0_0.length c0_0),(.slice A0_1 l0_1.length c0_1),(.slice A0_2 l0_2.length c0_2)] 57 (0,0)))∧Aside0 (wc.heap[L]?=some (.cells #[(.slice A1_0 l1_0.length c1_0),(.slice A1_1 l1_1.length c1_1),(.slice A1_2 l1_2.length c1_2)] 57 (0,0)))∧Aside0 (Below w.heap.size w wc))
 case first=>(
 have H:=bp.out
 clear bp
 obtain⟨bo,A6,H⟩:=sO H
 by_cases c7:bo=true
 ·(
 subst c7
 rewrite[if_pos rfl]at H
 by_cases Z:(l0_1.length:Int)=(l1_1.length:Int)
 ·(
 rw[if_pos Z]at H
 have c8b0:((l0_1.length:Int)==(l1_1.length:Int))=true:=zE Z
 have c8b1:((l0_1.length:Int) !=(l1_1.length:Int))=false:=zY Z
 have c8b2:(l0_1.length==l1_1.length)=true:=by first|simpa using Z|(simp at Z ⊢;omega)
 clear Z
 (first|rw[c8b0]|(simp only[i64_w,i32_w];rw[c8b0])|rw[c8b2]|skip)
 have H':=zM H
 clear H
 have dt:=X.out
 have du:=Y.out
 obtain⟨dv,dw,dx,dy,dz,dA⟩:=cells3 b.out
 obtain⟨dB,dC,dD,dE,dF,dG⟩:=cells3 c.out
 go_wp2_with (first|(go_at_call 62;(with_reducible refine(spec_l18SameBindings.calls k _ _ l0_0 _ _ l1_0 true _ ?side1 ?side2 ?side3 ?side4 A6.out).mono ?_);(case side1=>exact sD (zC ad.out HB.out));(case side2=>exact ae.out);(case side3=>exact sD (zC af.out HB.out));(case side4=>exact ag.out);rintro e w' ⟨rfl,⟨nd,rfl⟩⟩;(try first|exact⟨rfl,_,World.drewN_drewN _ _ _⟩|exact⟨rfl,_,Eq.trans (World.drewN_drewN _ _ _) (congrArg (World.drewN _) (Nat.add_assoc _ _ _))⟩)))
 repeat(go_quiet (first|(go_at_call 62;(with_reducible refine(spec_l18SameBindings.calls k _ _ l0_0 _ _ l1_0 true _ ?side1 ?side2 ?side3 ?side4 A6.out).mono ?_);(case side1=>exact sD (zC ad.out HB.out));(case side2=>exact ae.out);(case side3=>exact sD (zC af.out HB.out));(case side4=>exact ag.out);rintro e w' ⟨rfl,⟨nd,rfl⟩⟩;(try first|exact⟨rfl,_,World.drewN_drewN _ _ _⟩|exact⟨rfl,_,Eq.trans (World.drewN_drewN _ _ _) (congrArg (World.drewN _) (Nat.add_assoc _ _ _))⟩)));try go_wp2_with (first|(go_at_call 62;(with_reducible refine(spec_l18SameBindings.calls k _ _ l0_0 _ _ l1_0 true _ ?side1 ?side2 ?side3 ?side4 A6.out).mono ?_);(case side1=>exact sD (zC ad.out HB.out));(case side2=>exact ae.out);(case side3=>exact sD (zC af.out HB.out));(case side4=>exact ag.out);rintro e w' ⟨rfl,⟨nd,rfl⟩⟩;(try first|exact⟨rfl,_,World.drewN_drewN _ _ _⟩|exact⟨rfl,_,Eq.trans (World.drewN_drewN _ _ _) (congrArg (World.drewN _) (Nat.add_assoc _ _ _))⟩))))
 go_meet
 case rel=>exact⟨_,(((l0_2.length:Int) !=(l1_2.length:Int))),sr,H',⟨by first|omega|exact Nat.le_refl _⟩,⟨by exact sT b.out⟩,⟨by exact sT c.out⟩,⟨sb⟩⟩)
 rw[if_neg Z]at H
 have c8b0:((l0_1.length:Int)==(l1_1.length:Int))=false:=zN Z
 have c8b1:((l0_1.length:Int) !=(l1_1.length:Int))=true:=zX Z
 have c8b2:(l0_1.length==l1_1.length)=false:=by first|simpa using Z|(simp at Z ⊢;omega)
 (first|rw[c8b0]|(simp only[i64_w,i32_w];rw[c8b0])|rw[c8b2]|skip)
 have H':=zM H
 clear H
 have dH:=X.out
 have dI:=Y.out
 obtain⟨dJ,dK,dL,dM,dN,dO⟩:=cells3 b.out
 obtain⟨dP,dQ,dR,dS,dT,dU⟩:=cells3 c.out
 go_wp2_with (first|(go_at_call 62;(with_reducible refine(spec_l18SameBindings.calls k _ _ l0_0 _ _ l1_0 true _ ?side1 ?side2 ?side3 ?side4 A6.out).mono ?_);(case side1=>exact sD (zC ad.out HB.out));(case side2=>exact ae.out);(case side3=>exact sD (zC af.out HB.out));(case side4=>exact ag.out);rintro e w' ⟨rfl,⟨nd,rfl⟩⟩;(try first|exact⟨rfl,_,World.drewN_drewN _ _ _⟩|exact⟨rfl,_,Eq.trans (World.drewN_drewN _ _ _) (congrArg (World.drewN _) (Nat.add_assoc _ _ _))⟩)))
 repeat(go_quiet (first|(go_at_call 62;(with_reducible refine(spec_l18SameBindings.calls k _ _ l0_0 _ _ l1_0 true _ ?side1 ?side2 ?side3 ?side4 A6.out).mono ?_);(case side1=>exact sD (zC ad.out HB.out));(case side2=>exact ae.out);(case side3=>exact sD (zC af.out HB.out));(case side4=>exact ag.out);rintro e w' ⟨rfl,⟨nd,rfl⟩⟩;(try first|exact⟨rfl,_,World.drewN_drewN _ _ _⟩|exact⟨rfl,_,Eq.trans (World.drewN_drewN _ _ _) (congrArg (World.drewN _) (Nat.add_assoc _ _ _))⟩)));try go_wp2_with (first|(go_at_call 62;(with_reducible refine(spec_l18SameBindings.calls k _ _ l0_0 _ _ l1_0 true _ ?side1 ?side2 ?side3 ?side4 A6.out).mono ?_);(case side1=>exact sD (zC ad.out HB.out));(case side2=>exact ae.out);(case side3=>exact sD (zC af.out HB.out));(case side4=>exact ag.out);rintro e w' ⟨rfl,⟨nd,rfl⟩⟩;(try first|exact⟨rfl,_,World.drewN_drewN _ _ _⟩|exact⟨rfl,_,Eq.trans (World.drewN_drewN _ _ _) (congrArg (World.drewN _) (Nat.add_assoc _ _ _))⟩))))
 go_meet
 case rel=>exact⟨_,(true),sr,H',⟨by first|omega|exact Nat.le_refl _⟩,⟨by exact sT b.out⟩,⟨by exact sT c.out⟩,⟨sb⟩⟩)
 replace c7:=zB c7
 subst c7
 rewrite[if_neg zQ]at H
 have H':=zM H
 clear H
 have dV:=X.out
 have dW:=Y.out
 obtain⟨dX,dY,dZ,d0,d1,d2⟩:=cells3 b.out
 obtain⟨d3,d4,d5,d6,d7,d8⟩:=cells3 c.out
 go_wp2_with (first|(go_at_call 62;(with_reducible refine(spec_l18SameBindings.calls k _ _ l0_0 _ _ l1_0 false _ ?side1 ?side2 ?side3 ?side4 A6.out).mono ?_);(case side1=>exact sD (zC ad.out HB.out));(case side2=>exact ae.out);(case side3=>exact sD (zC af.out HB.out));(case side4=>exact ag.out);rintro e w' ⟨rfl,⟨nd,rfl⟩⟩;(try first|exact⟨rfl,_,World.drewN_drewN _ _ _⟩|exact⟨rfl,_,Eq.trans (World.drewN_drewN _ _ _) (congrArg (World.drewN _) (Nat.add_assoc _ _ _))⟩)))
 repeat(go_quiet (first|(go_at_call 62;(with_reducible refine(spec_l18SameBindings.calls k _ _ l0_0 _ _ l1_0 false _ ?side1 ?side2 ?side3 ?side4 A6.out).mono ?_);(case side1=>exact sD (zC ad.out HB.out));(case side2=>exact ae.out);(case side3=>exact sD (zC af.out HB.out));(case side4=>exact ag.out);rintro e w' ⟨rfl,⟨nd,rfl⟩⟩;(try first|exact⟨rfl,_,World.drewN_drewN _ _ _⟩|exact⟨rfl,_,Eq.trans (World.drewN_drewN _ _ _) (congrArg (World.drewN _) (Nat.add_assoc _ _ _))⟩)));try go_wp2_with (first|(go_at_call 62;(with_reducible refine(spec_l18SameBindings.calls k _ _ l0_0 _ _ l1_0 false _ ?side1 ?side2 ?side3 ?side4 A6.out).mono ?_);(case side1=>exact sD (zC ad.out HB.out));(case side2=>exact ae.out);(case side3=>exact sD (zC af.out HB.out));(case side4=>exact ag.out);rintro e w' ⟨rfl,⟨nd,rfl⟩⟩;(try first|exact⟨rfl,_,World.drewN_drewN _ _ _⟩|exact⟨rfl,_,Eq.trans (World.drewN_drewN _ _ _) (congrArg (World.drewN _) (Nat.add_assoc _ _ _))⟩))))
 go_meet
 case rel=>exact⟨_,(true),sr,H',⟨by first|omega|exact Nat.le_refl _⟩,⟨by exact sT b.out⟩,⟨by exact sT c.out⟩,⟨sb⟩⟩)
 case rest=>(
 clear bp
 obtain⟨kq,a8,rfl,HA,aa,b,c,HB⟩:=hcut
 cases kq with
 |zero=>exact absurd HA.out (by simp[spec_SameScope.j0])
 |succ kj2=>(
 have H:=HA.out
 clear HA
 simp only[spec_SameScope.j0]at H
 by_cases an:a8=true
 ·(
 subst an
 rewrite[if_pos rfl]at H
 obtain rfl:=zI H
 go_wp2
 repeat(go_quiet (fail);try go_wp2)
 go_ret
 exact⟨sq,sb⟩)
 replace an:=zB an
 subst an
 rewrite[if_neg zQ]at H
 have H':=zM H
 clear H
 go_wp2
 repeat(go_quiet (fail);try go_wp2)
 go_loopg [5] kj2 (fun kq v5 w'=>∃(a:Int),v5= .int .i64 a∧Aside0 (spec_SameScope.l0 kq a l0_0 l0_1 l0_2 l1_0 l1_1 l1_2=some r)∧Aside0 (kq≤kj2)∧Aside0 (w'.heap[K]?=some (.cells #[(.slice A0_0 l0_0.length c0_0),(.slice A0_1 l0_1.length c0_1),(.slice A0_2 l0_2.length c0_2)] 57 (0,0)))∧Aside0 (w'.heap[L]?=some (.cells #[(.slice A1_0 l1_0.length c1_0),(.slice A1_1 l1_1.length c1_1),(.slice A1_2 l1_2.length c1_2)] 57 (0,0)))∧Aside0 (Below w.heap.size w w'))
 case atStart=>exact⟨(0),sr,H',⟨Nat.le_refl _⟩,⟨by exact sT b.out⟩,⟨by exact sT c.out⟩,⟨sb⟩⟩
 case round=>(
 clear H'
 try clear an
 obtain⟨a,rfl,HA,ab,b,c,HB⟩:=hrel
 cases gk with
 |zero=>exact absurd HA.out (by simp[spec_SameScope.l0])
 |succ k2=>(
 have H:=HA.out
 clear HA
 simp only[spec_SameScope.l0]at H
 by_cases ah:a<(l0_1.length:Int)
 ·(
 rw[if_pos ah]at H
 have c19b0:=zT ah
 clear ah
 by_cases aX:0≤a
 ·(
 rw[if_pos aX]at H
 have c20b0:=zT aX
 clear aX
 by_cases aY:a<(l1_1.length:Int)
 ·(
 rw[if_pos aY]at H
 have c21b0:=zT aY
 clear aY
 have bq:=zM H
 clear H
 have d9:=X.out
 have ea:=Y.out
 obtain⟨cU,cV,cW,cX,cY,cZ⟩:=cells3 b.out
 have a9:0≤(a:Int):=zO (by first|(with_reducible assumption)|assumption)
 have ba:a<(l0_1.length:Int):=zO (by first|(with_reducible assumption)|assumption)
 obtain⟨ac,y,z,A,B,c0,br,bs,bt,bu,ch,ci,cj,ck⟩:=at_T107 cS.out a a9 ba
 cases c0
 replace br:=sX HB br
 replace bs:=sX HB bs
 replace bt:=sX HB bt
 replace bu:=sX HB bu
 have aS:=zM ci
 have aT:=zM ch
 clear ci ch
 have bv:=zM ck
 have bw:=zM cj
 clear ck cj
 replace a9:=eq_true a9
 replace ba:=eq_true ba
 go_upto_region 8 with(first|((with_reducible refine gate_dst (N:=6) rfl ?_);(try(refine gate_guard (by rfl) ?_;dsimp only));refine sV (N:=6) (cs:= #[.string (⟨#[]⟩:ByteArray),.slice none 0 0,.slice none 0 0,.string (⟨#[]⟩:ByteArray)]) (t:=107) ?_;intro gb352 hg S hbox hb;have D:=zM (hbox);have T:=sG HB hg;have Q:=sG HB hg;replace HB:=sB HB hb;have i:=sN b hg;have ai:=sM b hg;replace b:=sK b hb;have j:=sN c hg;have aj:=sM c hg;replace c:=sK c hb;clear hb hbox hg;have cl:=ai.out;have cm:=i.out;have cn:=aj.out;have co:=j.out;obtain⟨bx,bz,bA,bB,bC,bD,bE,bF⟩:=cells4 D.out;obtain⟨bG,bH,bI,bJ,bK,bL⟩:=cells3 c.out;have V:0≤(a:Int):=zO (by first|(with_reducible assumption)|assumption);have W:a<(l1_1.length:Int):=zO (by first|(with_reducible assumption)|assumption);obtain⟨I,bM,bN,bO,bP,aZ,d,u,v,x,ao,ap,aq,ar⟩:=at_T107 bm.out a V W;cases aZ;have m:I.block≠gb352:=Nat.ne_of_lt (Nat.lt_of_lt_of_le (by have:=zL _ _ d;first|rwa [add_block]at this|exact this) T.out);have n:I.block≠gb352:=Nat.ne_of_lt (Nat.lt_of_lt_of_le (by have:=zL _ _ d;first|rwa [add_block]at this|exact this) T.out);have q:I.block≠gb352:=Nat.ne_of_lt (Nat.lt_of_lt_of_le (by have:=zL _ _ d;first|rwa [add_block]at this|exact this) T.out);have s:I.block≠gb352:=Nat.ne_of_lt (Nat.lt_of_lt_of_le (by have:=zL _ _ d;first|rwa [add_block]at this|exact this) T.out);replace d:=sX HB d;replace u:=sX HB u;replace v:=sX HB v;replace x:=sX HB x;have au:=zM ap;have av:=zM ao;clear ap ao;have a0:=zM ar;have a1:=zM aq;clear ar aq;replace d:=(cell_far (p:=⟨gb352,0,none⟩) (by first|(rw[add_block];exact m)|(show(Addr.add _ _).block≠_;rw[add_block];exact m)|exact m) (.string ((rd_T107 l0_1 a).f0))).trans d;replace u:=(cell_far (p:=⟨gb352,0,none⟩) (by first|(rw[add_block];exact m)|(show(Addr.add _ _).block≠_;rw[add_block];exact m)|exact m) (.string ((rd_T107 l0_1 a).f0))).trans u;replace v:=(cell_far (p:=⟨gb352,0,none⟩) (by first|(rw[add_block];exact m)|(show(Addr.add _ _).block≠_;rw[add_block];exact m)|exact m) (.string ((rd_T107 l0_1 a).f0))).trans v;replace x:=(cell_far (p:=⟨gb352,0,none⟩) (by first|(rw[add_block];exact m)|(show(Addr.add _ _).block≠_;rw[add_block];exact m)|exact m) (.string ((rd_T107 l0_1 a).f0))).trans x;replace d:=(cell_far (p:=⟨gb352,1,none⟩) (by first|(rw[add_block];exact n)|(show(Addr.add _ _).block≠_;rw[add_block];exact n)|exact n) (.slice y ((rd_T107 l0_1 a).f1).length z)).trans d;replace u:=(cell_far (p:=⟨gb352,1,none⟩) (by first|(rw[add_block];exact n)|(show(Addr.add _ _).block≠_;rw[add_block];exact n)|exact n) (.slice y ((rd_T107 l0_1 a).f1).length z)).trans u;replace v:=(cell_far (p:=⟨gb352,1,none⟩) (by first|(rw[add_block];exact n)|(show(Addr.add _ _).block≠_;rw[add_block];exact n)|exact n) (.slice y ((rd_T107 l0_1 a).f1).length z)).trans v;replace x:=(cell_far (p:=⟨gb352,1,none⟩) (by first|(rw[add_block];exact n)|(show(Addr.add _ _).block≠_;rw[add_block];exact n)|exact n) (.slice y ((rd_T107 l0_1 a).f1).length z)).trans x;replace d:=(cell_far (p:=⟨gb352,2,none⟩) (by first|(rw[add_block];exact q)|(show(Addr.add _ _).block≠_;rw[add_block];exact q)|exact q) (.slice A ((rd_T107 l0_1 a).f2).length B)).trans d;replace u:=(cell_far (p:=⟨gb352,2,none⟩) (by first|(rw[add_block];exact q)|(show(Addr.add _ _).block≠_;rw[add_block];exact q)|exact q) (.slice A ((rd_T107 l0_1 a).f2).length B)).trans u;replace v:=(cell_far (p:=⟨gb352,2,none⟩) (by first|(rw[add_block];exact q)|(show(Addr.add _ _).block≠_;rw[add_block];exact q)|exact q) (.slice A ((rd_T107 l0_1 a).f2).length B)).trans v;replace x:=(cell_far (p:=⟨gb352,2,none⟩) (by first|(rw[add_block];exact q)|(show(Addr.add _ _).block≠_;rw[add_block];exact q)|exact q) (.slice A ((rd_T107 l0_1 a).f2).length B)).trans x;replace d:=(cell_far (p:=⟨gb352,3,none⟩) (by first|(rw[add_block];exact s)|(show(Addr.add _ _).block≠_;rw[add_block];exact s)|exact s) (.string ((rd_T107 l0_1 a).f3))).trans d;replace u:=(cell_far (p:=⟨gb352,3,none⟩) (by first|(rw[add_block];exact s)|(show(Addr.add _ _).block≠_;rw[add_block];exact s)|exact s) (.string ((rd_T107 l0_1 a).f3))).trans u;replace v:=(cell_far (p:=⟨gb352,3,none⟩) (by first|(rw[add_block];exact s)|(show(Addr.add _ _).block≠_;rw[add_block];exact s)|exact s) (.string ((rd_T107 l0_1 a).f3))).trans v;replace x:=(cell_far (p:=⟨gb352,3,none⟩) (by first|(rw[add_block];exact s)|(show(Addr.add _ _).block≠_;rw[add_block];exact s)|exact s) (.string ((rd_T107 l0_1 a).f3))).trans x;(try have cp:=fun(J:Nat)=>(show((((((S.drewN J).setCell ⟨gb352,0,none⟩ (.string ((rd_T107 l0_1 a).f0))).setCell ⟨gb352,1,none⟩ (.slice y ((rd_T107 l0_1 a).f1).length z)).setCell ⟨gb352,2,none⟩ (.slice A ((rd_T107 l0_1 a).f2).length B)).setCell ⟨gb352,3,none⟩ (.string ((rd_T107 l0_1 a).f3)))).cell? _=some _ from d));(try have cq:=fun(J:Nat)=>(show((((((S.drewN J).setCell ⟨gb352,0,none⟩ (.string ((rd_T107 l0_1 a).f0))).setCell ⟨gb352,1,none⟩ (.slice y ((rd_T107 l0_1 a).f1).length z)).setCell ⟨gb352,2,none⟩ (.slice A ((rd_T107 l0_1 a).f2).length B)).setCell ⟨gb352,3,none⟩ (.string ((rd_T107 l0_1 a).f3)))).cell? _=some _ from u));(try have cr:=fun(J:Nat)=>(show((((((S.drewN J).setCell ⟨gb352,0,none⟩ (.string ((rd_T107 l0_1 a).f0))).setCell ⟨gb352,1,none⟩ (.slice y ((rd_T107 l0_1 a).f1).length z)).setCell ⟨gb352,2,none⟩ (.slice A ((rd_T107 l0_1 a).f2).length B)).setCell ⟨gb352,3,none⟩ (.string ((rd_T107 l0_1 a).f3)))).cell? _=some _ from v));(try have ct:=fun(J:Nat)=>(show((((((S.drewN J).setCell ⟨gb352,0,none⟩ (.string ((rd_T107 l0_1 a).f0))).setCell ⟨gb352,1,none⟩ (.slice y ((rd_T107 l0_1 a).f1).length z)).setCell ⟨gb352,2,none⟩ (.slice A ((rd_T107 l0_1 a).f2).length B)).setCell ⟨gb352,3,none⟩ (.string ((rd_T107 l0_1 a).f3)))).cell? _=some _ from x));clear m;clear n;clear q;clear s;replace V:=eq_true V;replace W:=eq_true W)|((with_reducible refine gate_dst (N:=7) rfl ?_);(try(refine gate_guard (by rfl) ?_;dsimp only));refine sV (N:=7) (cs:= #[.string (⟨#[]⟩:ByteArray),.slice none 0 0,.slice none 0 0,.string (⟨#[]⟩:ByteArray)]) (t:=107) ?_;intro M hg cu hbox hb;have aw:=zM (blk_below (g:=K) (o:= .cells #[.slice A0_0 l0_0.length c0_0,.slice (some ac) l0_1.length c0_1,.slice A0_2 l0_2.length c0_2] 57 (0,0)) (by(with_reducible repeat(first|refine blk_drewN ?_ _|refine blk_drew ?_|refine blk_alloc ?_ _));refine blk_far ?_ i.out _;(with_reducible repeat(first|refine blk_drewN ?_ _|refine blk_drew ?_|refine blk_alloc ?_ _));refine blk_far ?_ i.out _;(with_reducible repeat(first|refine blk_drewN ?_ _|refine blk_drew ?_|refine blk_alloc ?_ _));refine blk_far ?_ i.out _;(with_reducible repeat(first|refine blk_drewN ?_ _|refine blk_drew ?_|refine blk_alloc ?_ _));refine blk_far ?_ i.out _;exact sT b.out) hb);have ax:=zM (blk_below (g:=L) (o:= .cells #[.slice A1_0 l1_0.length c1_0,.slice (some I) l1_1.length c1_1,.slice A1_2 l1_2.length c1_2] 57 (0,0)) (by(with_reducible repeat(first|refine blk_drewN ?_ _|refine blk_drew ?_|refine blk_alloc ?_ _));refine blk_far ?_ j.out _;(with_reducible repeat(first|refine blk_drewN ?_ _|refine blk_drew ?_|refine blk_alloc ?_ _));refine blk_far ?_ j.out _;(with_reducible repeat(first|refine blk_drewN ?_ _|refine blk_drew ?_|refine blk_alloc ?_ _));refine blk_far ?_ j.out _;(with_reducible repeat(first|refine blk_drewN ?_ _|refine blk_drew ?_|refine blk_alloc ?_ _));refine blk_far ?_ j.out _;exact sT c.out) hb);have ay:=zM (blk_below (g:=gb352) (o:= .cells #[.string ((rd_T107 l0_1 a).f0),.slice y ((rd_T107 l0_1 a).f1).length z,.slice A ((rd_T107 l0_1 a).f2).length B,.string ((rd_T107 l0_1 a).f3)] 107 (0,0)) (by exact sP4 (sT D.out)) hb);have az:=sB HB hb;have aA:=zM (hbox);have aB:=sG HB hg;have aC:=sG HB hg;have aD:=zM ((by rw[hg];exact Nat.ne_of_lt (blk_lt (g:=K) (o:= .cells #[.slice A0_0 l0_0.length c0_0,.slice (some ac) l0_1.length c0_1,.slice A0_2 l0_2.length c0_2] 57 (0,0)) (by(with_reducible repeat(first|refine blk_drewN ?_ _|refine blk_drew ?_|refine blk_alloc ?_ _));refine blk_far ?_ i.out _;(with_reducible repeat(first|refine blk_drewN ?_ _|refine blk_drew ?_|refine blk_alloc ?_ _));refine blk_far ?_ i.out _;(with_reducible repeat(first|refine blk_drewN ?_ _|refine blk_drew ?_|refine blk_alloc ?_ _));refine blk_far ?_ i.out _;(with_reducible repeat(first|refine blk_drewN ?_ _|refine blk_drew ?_|refine blk_alloc ?_ _));refine blk_far ?_ i.out _;exact sT b.out)):K≠M));have aE:=zM ((by rw[hg];exact Nat.ne_of_gt (blk_lt (g:=K) (o:= .cells #[.slice A0_0 l0_0.length c0_0,.slice (some ac) l0_1.length c0_1,.slice A0_2 l0_2.length c0_2] 57 (0,0)) (by(with_reducible repeat(first|refine blk_drewN ?_ _|refine blk_drew ?_|refine blk_alloc ?_ _));refine blk_far ?_ i.out _;(with_reducible repeat(first|refine blk_drewN ?_ _|refine blk_drew ?_|refine blk_alloc ?_ _));refine blk_far ?_ i.out _;(with_reducible repeat(first|refine blk_drewN ?_ _|refine blk_drew ?_|refine blk_alloc ?_ _));refine blk_far ?_ i.out _;(with_reducible repeat(first|refine blk_drewN ?_ _|refine blk_drew ?_|refine blk_alloc ?_ _));refine blk_far ?_ i.out _;exact sT b.out)):M≠K));have aF:=zM ((by rw[hg];exact Nat.ne_of_lt (blk_lt (g:=L) (o:= .cells #[.slice A1_0 l1_0.length c1_0,.slice (some I) l1_1.length c1_1,.slice A1_2 l1_2.length c1_2] 57 (0,0)) (by(with_reducible repeat(first|refine blk_drewN ?_ _|refine blk_drew ?_|refine blk_alloc ?_ _));refine blk_far ?_ j.out _;(with_reducible repeat(first|refine blk_drewN ?_ _|refine blk_drew ?_|refine blk_alloc ?_ _));refine blk_far ?_ j.out _;(with_reducible repeat(first|refine blk_drewN ?_ _|refine blk_drew ?_|refine blk_alloc ?_ _));refine blk_far ?_ j.out _;(with_reducible repeat(first|refine blk_drewN ?_ _|refine blk_drew ?_|refine blk_alloc ?_ _));refine blk_far ?_ j.out _;exact sT c.out)):L≠M));have aG:=zM ((by rw[hg];exact Nat.ne_of_gt (blk_lt (g:=L) (o:= .cells #[.slice A1_0 l1_0.length c1_0,.slice (some I) l1_1.length c1_1,.slice A1_2 l1_2.length c1_2] 57 (0,0)) (by(with_reducible repeat(first|refine blk_drewN ?_ _|refine blk_drew ?_|refine blk_alloc ?_ _));refine blk_far ?_ j.out _;(with_reducible repeat(first|refine blk_drewN ?_ _|refine blk_drew ?_|refine blk_alloc ?_ _));refine blk_far ?_ j.out _;(with_reducible repeat(first|refine blk_drewN ?_ _|refine blk_drew ?_|refine blk_alloc ?_ _));refine blk_far ?_ j.out _;(with_reducible repeat(first|refine blk_drewN ?_ _|refine blk_drew ?_|refine blk_alloc ?_ _));refine blk_far ?_ j.out _;exact sT c.out)):M≠L));have aH:=zM ((by rw[hg];exact Nat.ne_of_lt (blk_lt (g:=gb352) (o:= .cells #[.string ((rd_T107 l0_1 a).f0),.slice y ((rd_T107 l0_1 a).f1).length z,.slice A ((rd_T107 l0_1 a).f2).length B,.string ((rd_T107 l0_1 a).f3)] 107 (0,0)) (by exact sP4 (sT D.out))):gb352≠M));have aI:=zM ((by rw[hg];exact Nat.ne_of_gt (blk_lt (g:=gb352) (o:= .cells #[.string ((rd_T107 l0_1 a).f0),.slice y ((rd_T107 l0_1 a).f1).length z,.slice A ((rd_T107 l0_1 a).f2).length B,.string ((rd_T107 l0_1 a).f3)] 107 (0,0)) (by exact sP4 (sT D.out))):M≠gb352));clear b;clear c;clear D;clear HB;have b:=aw;have c:=ax;have D:=ay;have HB:=az;have U:=aA;have cv:=aB;have R:=aC;have E:=aD;have ak:=aE;have F:=aF;have al:=aG;have G:=aH;have am:=aI;clear aw ax ay az aA aB aC aD aE aF aG aH aI;clear hb hbox hg;have cw:=ak.out;have cx:=E.out;have cy:=al.out;have cz:=F.out;have cA:=am.out;have cB:=G.out;obtain⟨bQ,bR,bS,bT,bU,bV,bW,bX⟩:=cells4 U.out))
 repeat(go_quiet (first|((with_reducible refine gate_dst (N:=6) rfl ?_);(try(refine gate_guard (by rfl) ?_;dsimp only));refine sV (N:=6) (cs:= #[.string (⟨#[]⟩:ByteArray),.slice none 0 0,.slice none 0 0,.string (⟨#[]⟩:ByteArray)]) (t:=107) ?_;intro gb352 hg S hbox hb;have D:=zM (hbox);have T:=sG HB hg;have Q:=sG HB hg;replace HB:=sB HB hb;have i:=sN b hg;have ai:=sM b hg;replace b:=sK b hb;have j:=sN c hg;have aj:=sM c hg;replace c:=sK c hb;clear hb hbox hg;have cl:=ai.out;have cm:=i.out;have cn:=aj.out;have co:=j.out;obtain⟨bx,bz,bA,bB,bC,bD,bE,bF⟩:=cells4 D.out;obtain⟨bG,bH,bI,bJ,bK,bL⟩:=cells3 c.out;have V:0≤(a:Int):=zO (by first|(with_reducible assumption)|assumption);have W:a<(l1_1.length:Int):=zO (by first|(with_reducible assumption)|assumption);obtain⟨I,bM,bN,bO,bP,aZ,d,u,v,x,ao,ap,aq,ar⟩:=at_T107 bm.out a V W;cases aZ;have m:I.block≠gb352:=Nat.ne_of_lt (Nat.lt_of_lt_of_le (by have:=zL _ _ d;first|rwa [add_block]at this|exact this) T.out);have n:I.block≠gb352:=Nat.ne_of_lt (Nat.lt_of_lt_of_le (by have:=zL _ _ d;first|rwa [add_block]at this|exact this) T.out);have q:I.block≠gb352:=Nat.ne_of_lt (Nat.lt_of_lt_of_le (by have:=zL _ _ d;first|rwa [add_block]at this|exact this) T.out);have s:I.block≠gb352:=Nat.ne_of_lt (Nat.lt_of_lt_of_le (by have:=zL _ _ d;first|rwa [add_block]at this|exact this) T.out);replace d:=sX HB d;replace u:=sX HB u;replace v:=sX HB v;replace x:=sX HB x;have au:=zM ap;have av:=zM ao;clear ap ao;have a0:=zM ar;have a1:=zM aq;clear ar aq;replace d:=(cell_far (p:=⟨gb352,0,none⟩) (by first|(rw[add_block];exact m)|(show(Addr.add _ _).block≠_;rw[add_block];exact m)|exact m) (.string ((rd_T107 l0_1 a).f0))).trans d;replace u:=(cell_far (p:=⟨gb352,0,none⟩) (by first|(rw[add_block];exact m)|(show(Addr.add _ _).block≠_;rw[add_block];exact m)|exact m) (.string ((rd_T107 l0_1 a).f0))).trans u;replace v:=(cell_far (p:=⟨gb352,0,none⟩) (by first|(rw[add_block];exact m)|(show(Addr.add _ _).block≠_;rw[add_block];exact m)|exact m) (.string ((rd_T107 l0_1 a).f0))).trans v;replace x:=(cell_far (p:=⟨gb352,0,none⟩) (by first|(rw[add_block];exact m)|(show(Addr.add _ _).block≠_;rw[add_block];exact m)|exact m) (.string ((rd_T107 l0_1 a).f0))).trans x;replace d:=(cell_far (p:=⟨gb352,1,none⟩) (by first|(rw[add_block];exact n)|(show(Addr.add _ _).block≠_;rw[add_block];exact n)|exact n) (.slice y ((rd_T107 l0_1 a).f1).length z)).trans d;replace u:=(cell_far (p:=⟨gb352,1,none⟩) (by first|(rw[add_block];exact n)|(show(Addr.add _ _).block≠_;rw[add_block];exact n)|exact n) (.slice y ((rd_T107 l0_1 a).f1).length z)).trans u;replace v:=(cell_far (p:=⟨gb352,1,none⟩) (by first|(rw[add_block];exact n)|(show(Addr.add _ _).block≠_;rw[add_block];exact n)|exact n) (.slice y ((rd_T107 l0_1 a).f1).length z)).trans v;replace x:=(cell_far (p:=⟨gb352,1,none⟩) (by first|(rw[add_block];exact n)|(show(Addr.add _ _).block≠_;rw[add_block];exact n)|exact n) (.slice y ((rd_T107 l0_1 a).f1).length z)).trans x;replace d:=(cell_far (p:=⟨gb352,2,none⟩) (by first|(rw[add_block];exact q)|(show(Addr.add _ _).block≠_;rw[add_block];exact q)|exact q) (.slice A ((rd_T107 l0_1 a).f2).length B)).trans d;replace u:=(cell_far (p:=⟨gb352,2,none⟩) (by first|(rw[add_block];exact q)|(show(Addr.add _ _).block≠_;rw[add_block];exact q)|exact q) (.slice A ((rd_T107 l0_1 a).f2).length B)).trans u;replace v:=(cell_far (p:=⟨gb352,2,none⟩) (by first|(rw[add_block];exact q)|(show(Addr.add _ _).block≠_;rw[add_block];exact q)|exact q) (.slice A ((rd_T107 l0_1 a).f2).length B)).trans v;replace x:=(cell_far (p:=⟨gb352,2,none⟩) (by first|(rw[add_block];exact q)|(show(Addr.add _ _).block≠_;rw[add_block];exact q)|exact q) (.slice A ((rd_T107 l0_1 a).f2).length B)).trans x;replace d:=(cell_far (p:=⟨gb352,3,none⟩) (by first|(rw[add_block];exact s)|(show(Addr.add _ _).block≠_;rw[add_block];exact s)|exact s) (.string ((rd_T107 l0_1 a).f3))).trans d;replace u:=(cell_far (p:=⟨gb352,3,none⟩) (by first|(rw[add_block];exact s)|(show(Addr.add _ _).block≠_;rw[add_block];exact s)|exact s) (.string ((rd_T107 l0_1 a).f3))).trans u;replace v:=(cell_far (p:=⟨gb352,3,none⟩) (by first|(rw[add_block];exact s)|(show(Addr.add _ _).block≠_;rw[add_block];exact s)|exact s) (.string ((rd_T107 l0_1 a).f3))).trans v;replace x:=(cell_far (p:=⟨gb352,3,none⟩) (by first|(rw[add_block];exact s)|(show(Addr.add _ _).block≠_;rw[add_block];exact s)|exact s) (.string ((rd_T107 l0_1 a).f3))).trans x;(try have cp:=fun(J:Nat)=>(show((((((S.drewN J).setCell ⟨gb352,0,none⟩ (.string ((rd_T107 l0_1 a).f0))).setCell ⟨gb352,1,none⟩ (.slice y ((rd_T107 l0_1 a).f1).length z)).setCell ⟨gb352,2,none⟩ (.slice A ((rd_T107 l0_1 a).f2).length B)).setCell ⟨gb352,3,none⟩ (.string ((rd_T107 l0_1 a).f3)))).cell? _=some _ from d));(try have cq:=fun(J:Nat)=>(show((((((S.drewN J).setCell ⟨gb352,0,none⟩ (.string ((rd_T107 l0_1 a).f0))).setCell ⟨gb352,1,none⟩ (.slice y ((rd_T107 l0_1 a).f1).length z)).setCell ⟨gb352,2,none⟩ (.slice A ((rd_T107 l0_1 a).f2).length B)).setCell ⟨gb352,3,none⟩ (.string ((rd_T107 l0_1 a).f3)))).cell? _=some _ from u));(try have cr:=fun(J:Nat)=>(show((((((S.drewN J).setCell ⟨gb352,0,none⟩ (.string ((rd_T107 l0_1 a).f0))).setCell ⟨gb352,1,none⟩ (.slice y ((rd_T107 l0_1 a).f1).length z)).setCell ⟨gb352,2,none⟩ (.slice A ((rd_T107 l0_1 a).f2).length B)).setCell ⟨gb352,3,none⟩ (.string ((rd_T107 l0_1 a).f3)))).cell? _=some _ from v));(try have ct:=fun(J:Nat)=>(show((((((S.drewN J).setCell ⟨gb352,0,none⟩ (.string ((rd_T107 l0_1 a).f0))).setCell ⟨gb352,1,none⟩ (.slice y ((rd_T107 l0_1 a).f1).length z)).setCell ⟨gb352,2,none⟩ (.slice A ((rd_T107 l0_1 a).f2).length B)).setCell ⟨gb352,3,none⟩ (.string ((rd_T107 l0_1 a).f3)))).cell? _=some _ from x));clear m;clear n;clear q;clear s;replace V:=eq_true V;replace W:=eq_true W)|((with_reducible refine gate_dst (N:=7) rfl ?_);(try(refine gate_guard (by rfl) ?_;dsimp only));refine sV (N:=7) (cs:= #[.string (⟨#[]⟩:ByteArray),.slice none 0 0,.slice none 0 0,.string (⟨#[]⟩:ByteArray)]) (t:=107) ?_;intro M hg cu hbox hb;have aw:=zM (blk_below (g:=K) (o:= .cells #[.slice A0_0 l0_0.length c0_0,.slice (some ac) l0_1.length c0_1,.slice A0_2 l0_2.length c0_2] 57 (0,0)) (by(with_reducible repeat(first|refine blk_drewN ?_ _|refine blk_drew ?_|refine blk_alloc ?_ _));refine blk_far ?_ i.out _;(with_reducible repeat(first|refine blk_drewN ?_ _|refine blk_drew ?_|refine blk_alloc ?_ _));refine blk_far ?_ i.out _;(with_reducible repeat(first|refine blk_drewN ?_ _|refine blk_drew ?_|refine blk_alloc ?_ _));refine blk_far ?_ i.out _;(with_reducible repeat(first|refine blk_drewN ?_ _|refine blk_drew ?_|refine blk_alloc ?_ _));refine blk_far ?_ i.out _;exact sT b.out) hb);have ax:=zM (blk_below (g:=L) (o:= .cells #[.slice A1_0 l1_0.length c1_0,.slice (some I) l1_1.length c1_1,.slice A1_2 l1_2.length c1_2] 57 (0,0)) (by(with_reducible repeat(first|refine blk_drewN ?_ _|refine blk_drew ?_|refine blk_alloc ?_ _));refine blk_far ?_ j.out _;(with_reducible repeat(first|refine blk_drewN ?_ _|refine blk_drew ?_|refine blk_alloc ?_ _));refine blk_far ?_ j.out _;(with_reducible repeat(first|refine blk_drewN ?_ _|refine blk_drew ?_|refine blk_alloc ?_ _));refine blk_far ?_ j.out _;(with_reducible repeat(first|refine blk_drewN ?_ _|refine blk_drew ?_|refine blk_alloc ?_ _));refine blk_far ?_ j.out _;exact sT c.out) hb);have ay:=zM (blk_below (g:=gb352) (o:= .cells #[.string ((rd_T107 l0_1 a).f0),.slice y ((rd_T107 l0_1 a).f1).length z,.slice A ((rd_T107 l0_1 a).f2).length B,.string ((rd_T107 l0_1 a).f3)] 107 (0,0)) (by exact sP4 (sT D.out)) hb);have az:=sB HB hb;have aA:=zM (hbox);have aB:=sG HB hg;have aC:=sG HB hg;have aD:=zM ((by rw[hg];exact Nat.ne_of_lt (blk_lt (g:=K) (o:= .cells #[.slice A0_0 l0_0.length c0_0,.slice (some ac) l0_1.length c0_1,.slice A0_2 l0_2.length c0_2] 57 (0,0)) (by(with_reducible repeat(first|refine blk_drewN ?_ _|refine blk_drew ?_|refine blk_alloc ?_ _));refine blk_far ?_ i.out _;(with_reducible repeat(first|refine blk_drewN ?_ _|refine blk_drew ?_|refine blk_alloc ?_ _));refine blk_far ?_ i.out _;(with_reducible repeat(first|refine blk_drewN ?_ _|refine blk_drew ?_|refine blk_alloc ?_ _));refine blk_far ?_ i.out _;(with_reducible repeat(first|refine blk_drewN ?_ _|refine blk_drew ?_|refine blk_alloc ?_ _));refine blk_far ?_ i.out _;exact sT b.out)):K≠M));have aE:=zM ((by rw[hg];exact Nat.ne_of_gt (blk_lt (g:=K) (o:= .cells #[.slice A0_0 l0_0.length c0_0,.slice (some ac) l0_1.length c0_1,.slice A0_2 l0_2.length c0_2] 57 (0,0)) (by(with_reducible repeat(first|refine blk_drewN ?_ _|refine blk_drew ?_|refine blk_alloc ?_ _));refine blk_far ?_ i.out _;(with_reducible repeat(first|refine blk_drewN ?_ _|refine blk_drew ?_|refine blk_alloc ?_ _));refine blk_far ?_ i.out _;(with_reducible repeat(first|refine blk_drewN ?_ _|refine blk_drew ?_|refine blk_alloc ?_ _));refine blk_far ?_ i.out _;(with_reducible repeat(first|refine blk_drewN ?_ _|refine blk_drew ?_|refine blk_alloc ?_ _));refine blk_far ?_ i.out _;exact sT b.out)):M≠K));have aF:=zM ((by rw[hg];exact Nat.ne_of_lt (blk_lt (g:=L) (o:= .cells #[.slice A1_0 l1_0.length c1_0,.slice (some I) l1_1.length c1_1,.slice A1_2 l1_2.length c1_2] 57 (0,0)) (by(with_reducible repeat(first|refine blk_drewN ?_ _|refine blk_drew ?_|refine blk_alloc ?_ _));refine blk_far ?_ j.out _;(with_reducible repeat(first|refine blk_drewN ?_ _|refine blk_drew ?_|refine blk_alloc ?_ _));refine blk_far ?_ j.out _;(with_reducible repeat(first|refine blk_drewN ?_ _|refine blk_drew ?_|refine blk_alloc ?_ _));refine blk_far ?_ j.out _;(with_reducible repeat(first|refine blk_drewN ?_ _|refine blk_drew ?_|refine blk_alloc ?_ _));refine blk_far ?_ j.out _;exact sT c.out)):L≠M));have aG:=zM ((by rw[hg];exact Nat.ne_of_gt (blk_lt (g:=L) (o:= .cells #[.slice A1_0 l1_0.length c1_0,.slice (some I) l1_1.length c1_1,.slice A1_2 l1_2.length c1_2] 57 (0,0)) (by(with_reducible repeat(first|refine blk_drewN ?_ _|refine blk_drew ?_|refine blk_alloc ?_ _));refine blk_far ?_ j.out _;(with_reducible repeat(first|refine blk_drewN ?_ _|refine blk_drew ?_|refine blk_alloc ?_ _));refine blk_far ?_ j.out _;(with_reducible repeat(first|refine blk_drewN ?_ _|refine blk_drew ?_|refine blk_alloc ?_ _));refine blk_far ?_ j.out _;(with_reducible repeat(first|refine blk_drewN ?_ _|refine blk_drew ?_|refine blk_alloc ?_ _));refine blk_far ?_ j.out _;exact sT c.out)):M≠L));have aH:=zM ((by rw[hg];exact Nat.ne_of_lt (blk_lt (g:=gb352) (o:= .cells #[.string ((rd_T107 l0_1 a).f0),.slice y ((rd_T107 l0_1 a).f1).length z,.slice A ((rd_T107 l0_1 a).f2).length B,.string ((rd_T107 l0_1 a).f3)] 107 (0,0)) (by exact sP4 (sT D.out))):gb352≠M));have aI:=zM ((by rw[hg];exact Nat.ne_of_gt (blk_lt (g:=gb352) (o:= .cells #[.string ((rd_T107 l0_1 a).f0),.slice y ((rd_T107 l0_1 a).f1).length z,.slice A ((rd_T107 l0_1 a).f2).length B,.string ((rd_T107 l0_1 a).f3)] 107 (0,0)) (by exact sP4 (sT D.out))):M≠gb352));clear b;clear c;clear D;clear HB;have b:=aw;have c:=ax;have D:=ay;have HB:=az;have U:=aA;have cv:=aB;have R:=aC;have E:=aD;have ak:=aE;have F:=aF;have al:=aG;have G:=aH;have am:=aI;clear aw ax ay az aA aB aC aD aE aF aG aH aI;clear hb hbox hg;have cw:=ak.out;have cx:=E.out;have cy:=al.out;have cz:=F.out;have cA:=am.out;have cB:=G.out;obtain⟨bQ,bR,bS,bT,bU,bV,bW,bX⟩:=cells4 U.out));go_upto_region 8 with(first|((with_reducible refine gate_dst (N:=6) rfl ?_);(try(refine gate_guard (by rfl) ?_;dsimp only));refine sV (N:=6) (cs:= #[.string (⟨#[]⟩:ByteArray),.slice none 0 0,.slice none 0 0,.string (⟨#[]⟩:ByteArray)]) (t:=107) ?_;intro gb352 hg S hbox hb;have D:=zM (hbox);have T:=sG HB hg;have Q:=sG HB hg;replace HB:=sB HB hb;have i:=sN b hg;have ai:=sM b hg;replace b:=sK b hb;have j:=sN c hg;have aj:=sM c hg;replace c:=sK c hb;clear hb hbox hg;have cl:=ai.out;have cm:=i.out;have cn:=aj.out;have co:=j.out;obtain⟨bx,bz,bA,bB,bC,bD,bE,bF⟩:=cells4 D.out;obtain⟨bG,bH,bI,bJ,bK,bL⟩:=cells3 c.out;have V:0≤(a:Int):=zO (by first|(with_reducible assumption)|assumption);have W:a<(l1_1.length:Int):=zO (by first|(with_reducible assumption)|assumption);obtain⟨I,bM,bN,bO,bP,aZ,d,u,v,x,ao,ap,aq,ar⟩:=at_T107 bm.out a V W;cases aZ;have m:I.block≠gb352:=Nat.ne_of_lt (Nat.lt_of_lt_of_le (by have:=zL _ _ d;first|rwa [add_block]at this|exact this) T.out);have n:I.block≠gb352:=Nat.ne_of_lt (Nat.lt_of_lt_of_le (by have:=zL _ _ d;first|rwa [add_block]at this|exact this) T.out);have q:I.block≠gb352:=Nat.ne_of_lt (Nat.lt_of_lt_of_le (by have:=zL _ _ d;first|rwa [add_block]at this|exact this) T.out);have s:I.block≠gb352:=Nat.ne_of_lt (Nat.lt_of_lt_of_le (by have:=zL _ _ d;first|rwa [add_block]at this|exact this) T.out);replace d:=sX HB d;replace u:=sX HB u;replace v:=sX HB v;replace x:=sX HB x;have au:=zM ap;have av:=zM ao;clear ap ao;have a0:=zM ar;have a1:=zM aq;clear ar aq;replace d:=(cell_far (p:=⟨gb352,0,none⟩) (by first|(rw[add_block];exact m)|(show(Addr.add _ _).block≠_;rw[add_block];exact m)|exact m) (.string ((rd_T107 l0_1 a).f0))).trans d;replace u:=(cell_far (p:=⟨gb352,0,none⟩) (by first|(rw[add_block];exact m)|(show(Addr.add _ _).block≠_;rw[add_block];exact m)|exact m) (.string ((rd_T107 l0_1 a).f0))).trans u;replace v:=(cell_far (p:=⟨gb352,0,none⟩) (by first|(rw[add_block];exact m)|(show(Addr.add _ _).block≠_;rw[add_block];exact m)|exact m) (.string ((rd_T107 l0_1 a).f0))).trans v;replace x:=(cell_far (p:=⟨gb352,0,none⟩) (by first|(rw[add_block];exact m)|(show(Addr.add _ _).block≠_;rw[add_block];exact m)|exact m) (.string ((rd_T107 l0_1 a).f0))).trans x;replace d:=(cell_far (p:=⟨gb352,1,none⟩) (by first|(rw[add_block];exact n)|(show(Addr.add _ _).block≠_;rw[add_block];exact n)|exact n) (.slice y ((rd_T107 l0_1 a).f1).length z)).trans d;replace u:=(cell_far (p:=⟨gb352,1,none⟩) (by first|(rw[add_block];exact n)|(show(Addr.add _ _).block≠_;rw[add_block];exact n)|exact n) (.slice y ((rd_T107 l0_1 a).f1).length z)).trans u;replace v:=(cell_far (p:=⟨gb352,1,none⟩) (by first|(rw[add_block];exact n)|(show(Addr.add _ _).block≠_;rw[add_block];exact n)|exact n) (.slice y ((rd_T107 l0_1 a).f1).length z)).trans v;replace x:=(cell_far (p:=⟨gb352,1,none⟩) (by first|(rw[add_block];exact n)|(show(Addr.add _ _).block≠_;rw[add_block];exact n)|exact n) (.slice y ((rd_T107 l0_1 a).f1).length z)).trans x;replace d:=(cell_far (p:=⟨gb352,2,none⟩) (by first|(rw[add_block];exact q)|(show(Addr.add _ _).block≠_;rw[add_block];exact q)|exact q) (.slice A ((rd_T107 l0_1 a).f2).length B)).trans d;replace u:=(cell_far (p:=⟨gb352,2,none⟩) (by first|(rw[add_block];exact q)|(show(Addr.add _ _).block≠_;rw[add_block];exact q)|exact q) (.slice A ((rd_T107 l0_1 a).f2).length B)).trans u;replace v:=(cell_far (p:=⟨gb352,2,none⟩) (by first|(rw[add_block];exact q)|(show(Addr.add _ _).block≠_;rw[add_block];exact q)|exact q) (.slice A ((rd_T107 l0_1 a).f2).length B)).trans v;replace x:=(cell_far (p:=⟨gb352,2,none⟩) (by first|(rw[add_block];exact q)|(show(Addr.add _ _).block≠_;rw[add_block];exact q)|exact q) (.slice A ((rd_T107 l0_1 a).f2).length B)).trans x;replace d:=(cell_far (p:=⟨gb352,3,none⟩) (by first|(rw[add_block];exact s)|(show(Addr.add _ _).block≠_;rw[add_block];exact s)|exact s) (.string ((rd_T107 l0_1 a).f3))).trans d;replace u:=(cell_far (p:=⟨gb352,3,none⟩) (by first|(rw[add_block];exact s)|(show(Addr.add _ _).block≠_;rw[add_block];exact s)|exact s) (.string ((rd_T107 l0_1 a).f3))).trans u;replace v:=(cell_far (p:=⟨gb352,3,none⟩) (by first|(rw[add_block];exact s)|(show(Addr.add _ _).block≠_;rw[add_block];exact s)|exact s) (.string ((rd_T107 l0_1 a).f3))).trans v;replace x:=(cell_far (p:=⟨gb352,3,none⟩) (by first|(rw[add_block];exact s)|(show(Addr.add _ _).block≠_;rw[add_block];exact s)|exact s) (.string ((rd_T107 l0_1 a).f3))).trans x;(try have cp:=fun(J:Nat)=>(show((((((S.drewN J).setCell ⟨gb352,0,none⟩ (.string ((rd_T107 l0_1 a).f0))).setCell ⟨gb352,1,none⟩ (.slice y ((rd_T107 l0_1 a).f1).length z)).setCell ⟨gb352,2,none⟩ (.slice A ((rd_T107 l0_1 a).f2).length B)).setCell ⟨gb352,3,none⟩ (.string ((rd_T107 l0_1 a).f3)))).cell? _=some _ from d));(try have cq:=fun(J:Nat)=>(show((((((S.drewN J).setCell ⟨gb352,0,none⟩ (.string ((rd_T107 l0_1 a).f0))).setCell ⟨gb352,1,none⟩ (.slice y ((rd_T107 l0_1 a).f1).length z)).setCell ⟨gb352,2,none⟩ (.slice A ((rd_T107 l0_1 a).f2).length B)).setCell ⟨gb352,3,none⟩ (.string ((rd_T107 l0_1 a).f3)))).cell? _=some _ from u));(try have cr:=fun(J:Nat)=>(show((((((S.drewN J).setCell ⟨gb352,0,none⟩ (.string ((rd_T107 l0_1 a).f0))).setCell ⟨gb352,1,none⟩ (.slice y ((rd_T107 l0_1 a).f1).length z)).setCell ⟨gb352,2,none⟩ (.slice A ((rd_T107 l0_1 a).f2).length B)).setCell ⟨gb352,3,none⟩ (.string ((rd_T107 l0_1 a).f3)))).cell? _=some _ from v));(try have ct:=fun(J:Nat)=>(show((((((S.drewN J).setCell ⟨gb352,0,none⟩ (.string ((rd_T107 l0_1 a).f0))).setCell ⟨gb352,1,none⟩ (.slice y ((rd_T107 l0_1 a).f1).length z)).setCell ⟨gb352,2,none⟩ (.slice A ((rd_T107 l0_1 a).f2).length B)).setCell ⟨gb352,3,none⟩ (.string ((rd_T107 l0_1 a).f3)))).cell? _=some _ from x));clear m;clear n;clear q;clear s;replace V:=eq_true V;replace W:=eq_true W)|((with_reducible refine gate_dst (N:=7) rfl ?_);(try(refine gate_guard (by rfl) ?_;dsimp only));refine sV (N:=7) (cs:= #[.string (⟨#[]⟩:ByteArray),.slice none 0 0,.slice none 0 0,.string (⟨#[]⟩:ByteArray)]) (t:=107) ?_;intro M hg cu hbox hb;have aw:=zM (blk_below (g:=K) (o:= .cells #[.slice A0_0 l0_0.length c0_0,.slice (some ac) l0_1.length c0_1,.slice A0_2 l0_2.length c0_2] 57 (0,0)) (by(with_reducible repeat(first|refine blk_drewN ?_ _|refine blk_drew ?_|refine blk_alloc ?_ _));refine blk_far ?_ i.out _;(with_reducible repeat(first|refine blk_drewN ?_ _|refine blk_drew ?_|refine blk_alloc ?_ _));refine blk_far ?_ i.out _;(with_reducible repeat(first|refine blk_drewN ?_ _|refine blk_drew ?_|refine blk_alloc ?_ _));refine blk_far ?_ i.out _;(with_reducible repeat(first|refine blk_drewN ?_ _|refine blk_drew ?_|refine blk_alloc ?_ _));refine blk_far ?_ i.out _;exact sT b.out) hb);have ax:=zM (blk_below (g:=L) (o:= .cells #[.slice A1_0 l1_0.length c1_0,.slice (some I) l1_1.length c1_1,.slice A1_2 l1_2.length c1_2] 57 (0,0)) (by(with_reducible repeat(first|refine blk_drewN ?_ _|refine blk_drew ?_|refine blk_alloc ?_ _));refine blk_far ?_ j.out _;(with_reducible repeat(first|refine blk_drewN ?_ _|refine blk_drew ?_|refine blk_alloc ?_ _));refine blk_far ?_ j.out _;(with_reducible repeat(first|refine blk_drewN ?_ _|refine blk_drew ?_|refine blk_alloc ?_ _));refine blk_far ?_ j.out _;(with_reducible repeat(first|refine blk_drewN ?_ _|refine blk_drew ?_|refine blk_alloc ?_ _));refine blk_far ?_ j.out _;exact sT c.out) hb);have ay:=zM (blk_below (g:=gb352) (o:= .cells #[.string ((rd_T107 l0_1 a).f0),.slice y ((rd_T107 l0_1 a).f1).length z,.slice A ((rd_T107 l0_1 a).f2).length B,.string ((rd_T107 l0_1 a).f3)] 107 (0,0)) (by exact sP4 (sT D.out)) hb);have az:=sB HB hb;have aA:=zM (hbox);have aB:=sG HB hg;have aC:=sG HB hg;have aD:=zM ((by rw[hg];exact Nat.ne_of_lt (blk_lt (g:=K) (o:= .cells #[.slice A0_0 l0_0.length c0_0,.slice (some ac) l0_1.length c0_1,.slice A0_2 l0_2.length c0_2] 57 (0,0)) (by(with_reducible repeat(first|refine blk_drewN ?_ _|refine blk_drew ?_|refine blk_alloc ?_ _));refine blk_far ?_ i.out _;(with_reducible repeat(first|refine blk_drewN ?_ _|refine blk_drew ?_|refine blk_alloc ?_ _));refine blk_far ?_ i.out _;(with_reducible repeat(first|refine blk_drewN ?_ _|refine blk_drew ?_|refine blk_alloc ?_ _));refine blk_far ?_ i.out _;(with_reducible repeat(first|refine blk_drewN ?_ _|refine blk_drew ?_|refine blk_alloc ?_ _));refine blk_far ?_ i.out _;exact sT b.out)):K≠M));have aE:=zM ((by rw[hg];exact Nat.ne_of_gt (blk_lt (g:=K) (o:= .cells #[.slice A0_0 l0_0.length c0_0,.slice (some ac) l0_1.length c0_1,.slice A0_2 l0_2.length c0_2] 57 (0,0)) (by(with_reducible repeat(first|refine blk_drewN ?_ _|refine blk_drew ?_|refine blk_alloc ?_ _));refine blk_far ?_ i.out _;(with_reducible repeat(first|refine blk_drewN ?_ _|refine blk_drew ?_|refine blk_alloc ?_ _));refine blk_far ?_ i.out _;(with_reducible repeat(first|refine blk_drewN ?_ _|refine blk_drew ?_|refine blk_alloc ?_ _));refine blk_far ?_ i.out _;(with_reducible repeat(first|refine blk_drewN ?_ _|refine blk_drew ?_|refine blk_alloc ?_ _));refine blk_far ?_ i.out _;exact sT b.out)):M≠K));have aF:=zM ((by rw[hg];exact Nat.ne_of_lt (blk_lt (g:=L) (o:= .cells #[.slice A1_0 l1_0.length c1_0,.slice (some I) l1_1.length c1_1,.slice A1_2 l1_2.length c1_2] 57 (0,0)) (by(with_reducible repeat(first|refine blk_drewN ?_ _|refine blk_drew ?_|refine blk_alloc ?_ _));refine blk_far ?_ j.out _;(with_reducible repeat(first|refine blk_drewN ?_ _|refine blk_drew ?_|refine blk_alloc ?_ _));refine blk_far ?_ j.out _;(with_reducible repeat(first|refine blk_drewN ?_ _|refine blk_drew ?_|refine blk_alloc ?_ _));refine blk_far ?_ j.out _;(with_reducible repeat(first|refine blk_drewN ?_ _|refine blk_drew ?_|refine blk_alloc ?_ _));refine blk_far ?_ j.out _;exact sT c.out)):L≠M));have aG:=zM ((by rw[hg];exact Nat.ne_of_gt (blk_lt (g:=L) (o:= .cells #[.slice A1_0 l1_0.length c1_0,.slice (some I) l1_1.length c1_1,.slice A1_2 l1_2.length c1_2] 57 (0,0)) (by(with_reducible repeat(first|refine blk_drewN ?_ _|refine blk_drew ?_|refine blk_alloc ?_ _));refine blk_far ?_ j.out _;(with_reducible repeat(first|refine blk_drewN ?_ _|refine blk_drew ?_|refine blk_alloc ?_ _));refine blk_far ?_ j.out _;(with_reducible repeat(first|refine blk_drewN ?_ _|refine blk_drew ?_|refine blk_alloc ?_ _));refine blk_far ?_ j.out _;(with_reducible repeat(first|refine blk_drewN ?_ _|refine blk_drew ?_|refine blk_alloc ?_ _));refine blk_far ?_ j.out _;exact sT c.out)):M≠L));have aH:=zM ((by rw[hg];exact Nat.ne_of_lt (blk_lt (g:=gb352) (o:= .cells #[.string ((rd_T107 l0_1 a).f0),.slice y ((rd_T107 l0_1 a).f1).length z,.slice A ((rd_T107 l0_1 a).f2).length B,.string ((rd_T107 l0_1 a).f3)] 107 (0,0)) (by exact sP4 (sT D.out))):gb352≠M));have aI:=zM ((by rw[hg];exact Nat.ne_of_gt (blk_lt (g:=gb352) (o:= .cells #[.string ((rd_T107 l0_1 a).f0),.slice y ((rd_T107 l0_1 a).f1).length z,.slice A ((rd_T107 l0_1 a).f2).length B,.string ((rd_T107 l0_1 a).f3)] 107 (0,0)) (by exact sP4 (sT D.out))):M≠gb352));clear b;clear c;clear D;clear HB;have b:=aw;have c:=ax;have D:=ay;have HB:=az;have U:=aA;have cv:=aB;have R:=aC;have E:=aD;have ak:=aE;have F:=aF;have al:=aG;have G:=aH;have am:=aI;clear aw ax ay az aA aB aC aD aE aF aG aH aI;clear hb hbox hg;have cw:=ak.out;have cx:=E.out;have cy:=al.out;have cz:=F.out;have cA:=am.out;have cB:=G.out;obtain⟨bQ,bR,bS,bT,bU,bV,bW,bX⟩:=cells4 U.out)))
 (try simp only[zP])
 go_cut [77] (fun c1 wc=>∃(kq:Nat) (bb:Bool),c1= .bool bb∧Aside0 (spec_SameScope.j2 kq a bb l0_0 l0_1 l0_2 l1_0 l1_1 l1_2=some r)∧Aside0 (kq≤k2)∧Aside0 (wc.heap[K]?=some (.cells #[(.slice A0_0 l0_0.length c0_0),(.slice (some ac) l0_1.length c0_1),(.slice A0_2 l0_2.length c0_2)] 57 (0,0)))∧Aside0 (wc.heap[L]?=some (.cells #[(.slice A1_0 l1_0.length c1_0),(.slice (some I) l1_1.length c1_1),(.slice A1_2 l1_2.length c1_2)] 57 (0,0)))∧Aside0 (wc.heap[gb352]?=some (.cells #[.string ((rd_T107 l0_1 a).f0),(.slice y ((rd_T107 l0_1 a).f1).length z),(.slice A ((rd_T107 l0_1 a).f2).length B),.string ((rd_T107 l0_1 a).f3)] 107 (0,0)))∧Aside0 (wc.heap[M]?=some (.cells #[.string ((rd_T107 l1_1 a).f0),(.slice bM ((rd_T107 l1_1 a).f1).length bN),(.slice bO ((rd_T107 l1_1 a).f2).length bP),.string ((rd_T107 l1_1 a).f3)] 107 (0,0)))∧Aside0 (Below w.heap.size w wc))
 case first=>(
 have H:=bq.out
 clear bq
 by_cases aJ:((rd_T107 l0_1 a).f0).toList=((rd_T107 l1_1 a).f0).toList
 ·(
 rw[if_pos aJ]at H
 have c35b0:(((rd_T107 l0_1 a).f0).toList==((rd_T107 l1_1 a).f0).toList)=true:=zE aJ
 have c35b1:(((rd_T107 l0_1 a).f0).toList !=((rd_T107 l1_1 a).f0).toList)=false:=zY aJ
 clear aJ
 (first|rw[c35b0]|(simp only[i64_w,i32_w];rw[c35b0])|rw[c35b2]|skip)
 by_cases aK:((rd_T107 l0_1 a).f3).toList=((rd_T107 l1_1 a).f3).toList
 ·(
 rw[if_pos aK]at H
 have c36b0:(((rd_T107 l0_1 a).f3).toList==((rd_T107 l1_1 a).f3).toList)=true:=zE aK
 have c36b1:(((rd_T107 l0_1 a).f3).toList !=((rd_T107 l1_1 a).f3).toList)=false:=zY aK
 clear aK
 obtain⟨c2,aU,H⟩:=sO H
 by_cases bc:c2=true
 ·(
 subst bc
 rewrite[if_pos rfl]at H
 obtain⟨bd,bY,H⟩:=sO H
 have H':=zM H
 clear H
 have eb:=ai.out
 have ec:=i.out
 have ed:=aj.out
 have ee:=j.out
 have ef:=G.out
 have eg:=am.out
 obtain⟨eh,ei,ej,ek,el,em,en,eo⟩:=cells4 D.out
 have ep:=ak.out
 have er:=E.out
 have es:=al.out
 have et:=F.out
 obtain⟨eu,ev,ew,ex,ey,ez,eA,eB⟩:=cells4 U.out
 go_wp2_with (first|(go_at_call 63;(with_reducible refine(spec_l18SameTexts.calls k2 _ _ ((rd_T107 l0_1 a).f1) _ _ ((rd_T107 l1_1 a).f1) true _ ?side1 ?side2 ?side3 ?side4 aU.out).mono ?_);(case side1=>exact zC aS.out (by repeat(first|(with_reducible first|exact HB.out|apply below_alloc|apply pw_below_drewN|apply below_drew1|refine below_set ?_ O.out|refine below_set ?_ P.out|refine below_set ?_ Q.out|refine below_set ?_ R.out)|exact HB.out)));(case side2=>exact aT.out);(case side3=>exact zC au.out (by repeat(first|(with_reducible first|exact HB.out|apply below_alloc|apply pw_below_drewN|apply below_drew1|refine below_set ?_ O.out|refine below_set ?_ P.out|refine below_set ?_ Q.out|refine below_set ?_ R.out)|exact HB.out)));(case side4=>exact av.out);rintro e w' ⟨rfl,⟨nd,rfl⟩⟩;(try first|exact⟨rfl,_,World.drewN_drewN _ _ _⟩|exact⟨rfl,_,Eq.trans (World.drewN_drewN _ _ _) (congrArg (World.drewN _) (Nat.add_assoc _ _ _))⟩))|(go_at_call 63;(with_reducible refine(spec_l18SameTexts.calls k2 _ _ ((rd_T107 l0_1 a).f2) _ _ ((rd_T107 l1_1 a).f2) bd _ ?side1 ?side2 ?side3 ?side4 bY.out).mono ?_);(case side1=>exact zC bv.out (by repeat(first|(with_reducible first|exact HB.out|apply below_alloc|apply pw_below_drewN|apply below_drew1|refine below_set ?_ O.out|refine below_set ?_ P.out|refine below_set ?_ Q.out|refine below_set ?_ R.out)|exact HB.out)));(case side2=>exact bw.out);(case side3=>exact zC a0.out (by repeat(first|(with_reducible first|exact HB.out|apply below_alloc|apply pw_below_drewN|apply below_drew1|refine below_set ?_ O.out|refine below_set ?_ P.out|refine below_set ?_ Q.out|refine below_set ?_ R.out)|exact HB.out)));(case side4=>exact a1.out);rintro e w' ⟨rfl,⟨nd,rfl⟩⟩;(try first|exact⟨rfl,_,World.drewN_drewN _ _ _⟩|exact⟨rfl,_,Eq.trans (World.drewN_drewN _ _ _) (congrArg (World.drewN _) (Nat.add_assoc _ _ _))⟩)))
 repeat(go_quiet (first|(go_at_call 63;(with_reducible refine(spec_l18SameTexts.calls k2 _ _ ((rd_T107 l0_1 a).f1) _ _ ((rd_T107 l1_1 a).f1) true _ ?side1 ?side2 ?side3 ?side4 aU.out).mono ?_);(case side1=>exact zC aS.out (by repeat(first|(with_reducible first|exact HB.out|apply below_alloc|apply pw_below_drewN|apply below_drew1|refine below_set ?_ O.out|refine below_set ?_ P.out|refine below_set ?_ Q.out|refine below_set ?_ R.out)|exact HB.out)));(case side2=>exact aT.out);(case side3=>exact zC au.out (by repeat(first|(with_reducible first|exact HB.out|apply below_alloc|apply pw_below_drewN|apply below_drew1|refine below_set ?_ O.out|refine below_set ?_ P.out|refine below_set ?_ Q.out|refine below_set ?_ R.out)|exact HB.out)));(case side4=>exact av.out);rintro e w' ⟨rfl,⟨nd,rfl⟩⟩;(try first|exact⟨rfl,_,World.drewN_drewN _ _ _⟩|exact⟨rfl,_,Eq.trans (World.drewN_drewN _ _ _) (congrArg (World.drewN _) (Nat.add_assoc _ _ _))⟩))|(go_at_call 63;(with_reducible refine(spec_l18SameTexts.calls k2 _ _ ((rd_T107 l0_1 a).f2) _ _ ((rd_T107 l1_1 a).f2) bd _ ?side1 ?side2 ?side3 ?side4 bY.out).mono ?_);(case side1=>exact zC bv.out (by repeat(first|(with_reducible first|exact HB.out|apply below_alloc|apply pw_below_drewN|apply below_drew1|refine below_set ?_ O.out|refine below_set ?_ P.out|refine below_set ?_ Q.out|refine below_set ?_ R.out)|exact HB.out)));(case side2=>exact bw.out);(case side3=>exact zC a0.out (by repeat(first|(with_reducible first|exact HB.out|apply below_alloc|apply pw_below_drewN|apply below_drew1|refine below_set ?_ O.out|refine below_set ?_ P.out|refine below_set ?_ Q.out|refine below_set ?_ R.out)|exact HB.out)));(case side4=>exact a1.out);rintro e w' ⟨rfl,⟨nd,rfl⟩⟩;(try first|exact⟨rfl,_,World.drewN_drewN _ _ _⟩|exact⟨rfl,_,Eq.trans (World.drewN_drewN _ _ _) (congrArg (World.drewN _) (Nat.add_assoc _ _ _))⟩)));try go_wp2_with (first|(go_at_call 63;(with_reducible refine(spec_l18SameTexts.calls k2 _ _ ((rd_T107 l0_1 a).f1) _ _ ((rd_T107 l1_1 a).f1) true _ ?side1 ?side2 ?side3 ?side4 aU.out).mono ?_);(case side1=>exact zC aS.out (by repeat(first|(with_reducible first|exact HB.out|apply below_alloc|apply pw_below_drewN|apply below_drew1|refine below_set ?_ O.out|refine below_set ?_ P.out|refine below_set ?_ Q.out|refine below_set ?_ R.out)|exact HB.out)));(case side2=>exact aT.out);(case side3=>exact zC au.out (by repeat(first|(with_reducible first|exact HB.out|apply below_alloc|apply pw_below_drewN|apply below_drew1|refine below_set ?_ O.out|refine below_set ?_ P.out|refine below_set ?_ Q.out|refine below_set ?_ R.out)|exact HB.out)));(case side4=>exact av.out);rintro e w' ⟨rfl,⟨nd,rfl⟩⟩;(try first|exact⟨rfl,_,World.drewN_drewN _ _ _⟩|exact⟨rfl,_,Eq.trans (World.drewN_drewN _ _ _) (congrArg (World.drewN _) (Nat.add_assoc _ _ _))⟩))|(go_at_call 63;(with_reducible refine(spec_l18SameTexts.calls k2 _ _ ((rd_T107 l0_1 a).f2) _ _ ((rd_T107 l1_1 a).f2) bd _ ?side1 ?side2 ?side3 ?side4 bY.out).mono ?_);(case side1=>exact zC bv.out (by repeat(first|(with_reducible first|exact HB.out|apply below_alloc|apply pw_below_drewN|apply below_drew1|refine below_set ?_ O.out|refine below_set ?_ P.out|refine below_set ?_ Q.out|refine below_set ?_ R.out)|exact HB.out)));(case side2=>exact bw.out);(case side3=>exact zC a0.out (by repeat(first|(with_reducible first|exact HB.out|apply below_alloc|apply pw_below_drewN|apply below_drew1|refine below_set ?_ O.out|refine below_set ?_ P.out|refine below_set ?_ Q.out|refine below_set ?_ R.out)|exact HB.out)));(case side4=>exact a1.out);rintro e w' ⟨rfl,⟨nd,rfl⟩⟩;(try first|exact⟨rfl,_,World.drewN_drewN _ _ _⟩|exact⟨rfl,_,Eq.trans (World.drewN_drewN _ _ _) (congrArg (World.drewN _) (Nat.add_assoc _ _ _))⟩))))
 go_meet
 case rel=>exact⟨_,(!bd),sr,H',⟨by have:=aa.out;have:=ab.out;first|omega|exact Nat.le_refl _⟩,⟨by(with_reducible repeat(first|refine blk_drewN ?_ _|refine blk_drew ?_|refine blk_alloc ?_ _));refine blk_far ?_ E.out _;(with_reducible repeat(first|refine blk_drewN ?_ _|refine blk_drew ?_|refine blk_alloc ?_ _));refine blk_far ?_ E.out _;(with_reducible repeat(first|refine blk_drewN ?_ _|refine blk_drew ?_|refine blk_alloc ?_ _));refine blk_far ?_ E.out _;(with_reducible repeat(first|refine blk_drewN ?_ _|refine blk_drew ?_|refine blk_alloc ?_ _));refine blk_far ?_ E.out _;exact sT b.out⟩,⟨by(with_reducible repeat(first|refine blk_drewN ?_ _|refine blk_drew ?_|refine blk_alloc ?_ _));refine blk_far ?_ F.out _;(with_reducible repeat(first|refine blk_drewN ?_ _|refine blk_drew ?_|refine blk_alloc ?_ _));refine blk_far ?_ F.out _;(with_reducible repeat(first|refine blk_drewN ?_ _|refine blk_drew ?_|refine blk_alloc ?_ _));refine blk_far ?_ F.out _;(with_reducible repeat(first|refine blk_drewN ?_ _|refine blk_drew ?_|refine blk_alloc ?_ _));refine blk_far ?_ F.out _;exact sT c.out⟩,⟨by(with_reducible repeat(first|refine blk_drewN ?_ _|refine blk_drew ?_|refine blk_alloc ?_ _));refine blk_far ?_ G.out _;(with_reducible repeat(first|refine blk_drewN ?_ _|refine blk_drew ?_|refine blk_alloc ?_ _));refine blk_far ?_ G.out _;(with_reducible repeat(first|refine blk_drewN ?_ _|refine blk_drew ?_|refine blk_alloc ?_ _));refine blk_far ?_ G.out _;(with_reducible repeat(first|refine blk_drewN ?_ _|refine blk_drew ?_|refine blk_alloc ?_ _));refine blk_far ?_ G.out _;exact sT D.out⟩,⟨by exact sP4 (sT U.out)⟩,⟨sb⟩⟩)
 replace bc:=zB bc
 subst bc
 rewrite[if_neg zQ]at H
 have H':=zM H
 clear H
 have eC:=ai.out
 have eD:=i.out
 have eE:=aj.out
 have eF:=j.out
 have eG:=G.out
 have eH:=am.out
 obtain⟨eI,eJ,eK,eL,eM,eN,eO,eP⟩:=cells4 D.out
 have eQ:=ak.out
 have eR:=E.out
 have eS:=al.out
 have eT:=F.out
 obtain⟨eU,eV,eW,eX,eY,eZ,e0,e1⟩:=cells4 U.out
 go_wp2_with (first|(go_at_call 63;(with_reducible refine(spec_l18SameTexts.calls k2 _ _ ((rd_T107 l0_1 a).f1) _ _ ((rd_T107 l1_1 a).f1) false _ ?side1 ?side2 ?side3 ?side4 aU.out).mono ?_);(case side1=>exact zC aS.out (by repeat(first|(with_reducible first|exact HB.out|apply below_alloc|apply pw_below_drewN|apply below_drew1|refine below_set ?_ O.out|refine below_set ?_ P.out|refine below_set ?_ Q.out|refine below_set ?_ R.out)|exact HB.out)));(case side2=>exact aT.out);(case side3=>exact zC au.out (by repeat(first|(with_reducible first|exact HB.out|apply below_alloc|apply pw_below_drewN|apply below_drew1|refine below_set ?_ O.out|refine below_set ?_ P.out|refine below_set ?_ Q.out|refine below_set ?_ R.out)|exact HB.out)));(case side4=>exact av.out);rintro e w' ⟨rfl,⟨nd,rfl⟩⟩;(try first|exact⟨rfl,_,World.drewN_drewN _ _ _⟩|exact⟨rfl,_,Eq.trans (World.drewN_drewN _ _ _) (congrArg (World.drewN _) (Nat.add_assoc _ _ _))⟩)))
 repeat(go_quiet (first|(go_at_call 63;(with_reducible refine(spec_l18SameTexts.calls k2 _ _ ((rd_T107 l0_1 a).f1) _ _ ((rd_T107 l1_1 a).f1) false _ ?side1 ?side2 ?side3 ?side4 aU.out).mono ?_);(case side1=>exact zC aS.out (by repeat(first|(with_reducible first|exact HB.out|apply below_alloc|apply pw_below_drewN|apply below_drew1|refine below_set ?_ O.out|refine below_set ?_ P.out|refine below_set ?_ Q.out|refine below_set ?_ R.out)|exact HB.out)));(case side2=>exact aT.out);(case side3=>exact zC au.out (by repeat(first|(with_reducible first|exact HB.out|apply below_alloc|apply pw_below_drewN|apply below_drew1|refine below_set ?_ O.out|refine below_set ?_ P.out|refine below_set ?_ Q.out|refine below_set ?_ R.out)|exact HB.out)));(case side4=>exact av.out);rintro e w' ⟨rfl,⟨nd,rfl⟩⟩;(try first|exact⟨rfl,_,World.drewN_drewN _ _ _⟩|exact⟨rfl,_,Eq.trans (World.drewN_drewN _ _ _) (congrArg (World.drewN _) (Nat.add_assoc _ _ _))⟩)));try go_wp2_with (first|(go_at_call 63;(with_reducible refine(spec_l18SameTexts.calls k2 _ _ ((rd_T107 l0_1 a).f1) _ _ ((rd_T107 l1_1 a).f1) false _ ?side1 ?side2 ?side3 ?side4 aU.out).mono ?_);(case side1=>exact zC aS.out (by repeat(first|(with_reducible first|exact HB.out|apply below_alloc|apply pw_below_drewN|apply below_drew1|refine below_set ?_ O.out|refine below_set ?_ P.out|refine below_set ?_ Q.out|refine below_set ?_ R.out)|exact HB.out)));(case side2=>exact aT.out);(case side3=>exact zC au.out (by repeat(first|(with_reducible first|exact HB.out|apply below_alloc|apply pw_below_drewN|apply below_drew1|refine below_set ?_ O.out|refine below_set ?_ P.out|refine below_set ?_ Q.out|refine below_set ?_ R.out)|exact HB.out)));(case side4=>exact av.out);rintro e w' ⟨rfl,⟨nd,rfl⟩⟩;(try first|exact⟨rfl,_,World.drewN_drewN _ _ _⟩|exact⟨rfl,_,Eq.trans (World.drewN_drewN _ _ _) (congrArg (World.drewN _) (Nat.add_assoc _ _ _))⟩))))
 go_meet
 case rel=>exact⟨_,(true),sr,H',⟨by have:=aa.out;have:=ab.out;first|omega|exact Nat.le_refl _⟩,⟨by(with_reducible repeat(first|refine blk_drewN ?_ _|refine blk_drew ?_|refine blk_alloc ?_ _));refine blk_far ?_ E.out _;(with_reducible repeat(first|refine blk_drewN ?_ _|refine blk_drew ?_|refine blk_alloc ?_ _));refine blk_far ?_ E.out _;(with_reducible repeat(first|refine blk_drewN ?_ _|refine blk_drew ?_|refine blk_alloc ?_ _));refine blk_far ?_ E.out _;(with_reducible repeat(first|refine blk_drewN ?_ _|refine blk_drew ?_|refine blk_alloc ?_ _));refine blk_far ?_ E.out _;exact sT b.out⟩,⟨by(with_reducible repeat(first|refine blk_drewN ?_ _|refine blk_drew ?_|refine blk_alloc ?_ _));refine blk_far ?_ F.out _;(with_reducible repeat(first|refine blk_drewN ?_ _|refine blk_drew ?_|refine blk_alloc ?_ _));refine blk_far ?_ F.out _;(with_reducible repeat(first|refine blk_drewN ?_ _|refine blk_drew ?_|refine blk_alloc ?_ _));refine blk_far ?_ F.out _;(with_reducible repeat(first|refine blk_drewN ?_ _|refine blk_drew ?_|refine blk_alloc ?_ _));refine blk_far ?_ F.out _;exact sT c.out⟩,⟨by(with_reducible repeat(first|refine blk_drewN ?_ _|refine blk_drew ?_|refine blk_alloc ?_ _));refine blk_far ?_ G.out _;(with_reducible repeat(first|refine blk_drewN ?_ _|refine blk_drew ?_|refine blk_alloc ?_ _));refine blk_far ?_ G.out _;(with_reducible repeat(first|refine blk_drewN ?_ _|refine blk_drew ?_|refine blk_alloc ?_ _));refine blk_far ?_ G.out _;(with_reducible repeat(first|refine blk_drewN ?_ _|refine blk_drew ?_|refine blk_alloc ?_ _));refine blk_far ?_ G.out _;exact sT D.out⟩,⟨by exact sP4 (sT U.out)⟩,⟨sb⟩⟩)
 rw[if_neg aK]at H
 have c36b0:(((rd_T107 l0_1 a).f3).toList==((rd_T107 l1_1 a).f3).toList)=false:=zN aK
 have c36b1:(((rd_T107 l0_1 a).f3).toList !=((rd_T107 l1_1 a).f3).toList)=true:=zX aK
 have H':=zM H
 clear H
 have e2:=ai.out
 have e3:=i.out
 have e4:=aj.out
 have e5:=j.out
 have e6:=G.out
 have e7:=am.out
 obtain⟨e8,e9,fa,fb,fc,fd,fe,ff⟩:=cells4 D.out
 have fg:=ak.out
 have fh:=E.out
 have fi:=al.out
 have fj:=F.out
 obtain⟨fk,fl,fm,fn,fo,fp,fq,fr⟩:=cells4 U.out
 go_wp2
 repeat(go_quiet (fail);try go_wp2)
 go_meet
 case rel=>exact⟨_,(true),sr,H',⟨by have:=aa.out;have:=ab.out;first|omega|exact Nat.le_refl _⟩,⟨by(with_reducible repeat(first|refine blk_drewN ?_ _|refine blk_drew ?_|refine blk_alloc ?_ _));refine blk_far ?_ E.out _;(with_reducible repeat(first|refine blk_drewN ?_ _|refine blk_drew ?_|refine blk_alloc ?_ _));refine blk_far ?_ E.out _;(with_reducible repeat(first|refine blk_drewN ?_ _|refine blk_drew ?_|refine blk_alloc ?_ _));refine blk_far ?_ E.out _;(with_reducible repeat(first|refine blk_drewN ?_ _|refine blk_drew ?_|refine blk_alloc ?_ _));refine blk_far ?_ E.out _;exact sT b.out⟩,⟨by(with_reducible repeat(first|refine blk_drewN ?_ _|refine blk_drew ?_|refine blk_alloc ?_ _));refine blk_far ?_ F.out _;(with_reducible repeat(first|refine blk_drewN ?_ _|refine blk_drew ?_|refine blk_alloc ?_ _));refine blk_far ?_ F.out _;(with_reducible repeat(first|refine blk_drewN ?_ _|refine blk_drew ?_|refine blk_alloc ?_ _));refine blk_far ?_ F.out _;(with_reducible repeat(first|refine blk_drewN ?_ _|refine blk_drew ?_|refine blk_alloc ?_ _));refine blk_far ?_ F.out _;exact sT c.out⟩,⟨by(with_reducible repeat(first|refine blk_drewN ?_ _|refine blk_drew ?_|refine blk_alloc ?_ _));refine blk_far ?_ G.out _;(with_reducible repeat(first|refine blk_drewN ?_ _|refine blk_drew ?_|refine blk_alloc ?_ _));refine blk_far ?_ G.out _;(with_reducible repeat(first|refine blk_drewN ?_ _|refine blk_drew ?_|refine blk_alloc ?_ _));refine blk_far ?_ G.out _;(with_reducible repeat(first|refine blk_drewN ?_ _|refine blk_drew ?_|refine blk_alloc ?_ _));refine blk_far ?_ G.out _;exact sT D.out⟩,⟨by exact sP4 (sT U.out)⟩,⟨sb⟩⟩)
 rw[if_neg aJ]at H
 have c35b0:(((rd_T107 l0_1 a).f0).toList==((rd_T107 l1_1 a).f0).toList)=false:=zN aJ
 have c35b1:(((rd_T107 l0_1 a).f0).toList !=((rd_T107 l1_1 a).f0).toList)=true:=zX aJ
 (first|rw[c35b0]|(simp only[i64_w,i32_w];rw[c35b0])|rw[c35b2]|skip)
 have H':=zM H
 clear H
 have fs:=ai.out
 have ft:=i.out
 have fu:=aj.out
 have fv:=j.out
 have fw:=G.out
 have fx:=am.out
 obtain⟨fy,fz,fA,fB,fC,fD,fE,fF⟩:=cells4 D.out
 have fG:=ak.out
 have fH:=E.out
 have fI:=al.out
 have fJ:=F.out
 obtain⟨fK,fL,fM,fN,fO,fP,fQ,fR⟩:=cells4 U.out
 go_wp2
 repeat(go_quiet (fail);try go_wp2)
 go_meet
 case rel=>exact⟨_,(true),sr,H',⟨by have:=aa.out;have:=ab.out;first|omega|exact Nat.le_refl _⟩,⟨by(with_reducible repeat(first|refine blk_drewN ?_ _|refine blk_drew ?_|refine blk_alloc ?_ _));refine blk_far ?_ E.out _;(with_reducible repeat(first|refine blk_drewN ?_ _|refine blk_drew ?_|refine blk_alloc ?_ _));refine blk_far ?_ E.out _;(with_reducible repeat(first|refine blk_drewN ?_ _|refine blk_drew ?_|refine blk_alloc ?_ _));refine blk_far ?_ E.out _;(with_reducible repeat(first|refine blk_drewN ?_ _|refine blk_drew ?_|refine blk_alloc ?_ _));refine blk_far ?_ E.out _;exact sT b.out⟩,⟨by(with_reducible repeat(first|refine blk_drewN ?_ _|refine blk_drew ?_|refine blk_alloc ?_ _));refine blk_far ?_ F.out _;(with_reducible repeat(first|refine blk_drewN ?_ _|refine blk_drew ?_|refine blk_alloc ?_ _));refine blk_far ?_ F.out _;(with_reducible repeat(first|refine blk_drewN ?_ _|refine blk_drew ?_|refine blk_alloc ?_ _));refine blk_far ?_ F.out _;(with_reducible repeat(first|refine blk_drewN ?_ _|refine blk_drew ?_|refine blk_alloc ?_ _));refine blk_far ?_ F.out _;exact sT c.out⟩,⟨by(with_reducible repeat(first|refine blk_drewN ?_ _|refine blk_drew ?_|refine blk_alloc ?_ _));refine blk_far ?_ G.out _;(with_reducible repeat(first|refine blk_drewN ?_ _|refine blk_drew ?_|refine blk_alloc ?_ _));refine blk_far ?_ G.out _;(with_reducible repeat(first|refine blk_drewN ?_ _|refine blk_drew ?_|refine blk_alloc ?_ _));refine blk_far ?_ G.out _;(with_reducible repeat(first|refine blk_drewN ?_ _|refine blk_drew ?_|refine blk_alloc ?_ _));refine blk_far ?_ G.out _;exact sT D.out⟩,⟨by exact sP4 (sT U.out)⟩,⟨sb⟩⟩)
 case rest=>(
 clear bq
 try clear an
 try clear ah
 try clear c19b0
 try clear aX
 try clear c20b0
 try clear aY
 try clear c21b0
 try clear cU
 try clear cV
 try clear cW
 try clear bx
 try clear bz
 try clear bA
 try clear bB
 try clear bG
 try clear bH
 try clear bI
 try clear bQ
 try clear bR
 try clear bS
 try clear bT
 try clear cX
 try clear cY
 try clear cZ
 try clear bC
 try clear bD
 try clear bE
 try clear bF
 try clear bJ
 try clear bK
 try clear bL
 try clear bU
 try clear bV
 try clear bW
 try clear bX
 try clear br
 try clear bs
 try clear bt
 try clear bu
 try clear d
 try clear u
 try clear v
 try clear x
 try clear a9
 try clear V
 try clear ba
 try clear W
 obtain⟨kq,bb,rfl,HA,cC,b,c,D,U,HB⟩:=hcut
 cases kq with
 |zero=>exact absurd HA.out (by simp[spec_SameScope.j2])
 |succ kj21=>(
 have H:=HA.out
 clear HA
 simp only[spec_SameScope.j2]at H
 by_cases be:bb=true
 ·(
 subst be
 rewrite[if_pos rfl]at H
 obtain rfl:=zI H
 go_wp2
 repeat(go_quiet (fail);try go_wp2)
 go_ret
 exact⟨sq,sb⟩)
 replace be:=zB be
 subst be
 rewrite[if_neg zQ]at H
 have H':=zM H
 clear H
 go_wp2
 repeat(go_quiet (fail);try go_wp2)
 go_roundg kj21
 case measure=>have:=aa.out;have:=ab.out;have:=cC.out;omega
 case rel=>exact⟨(wrap64 (a+1)),sr,H',⟨by have:=aa.out;have:=ab.out;have:=cC.out;omega⟩,⟨by exact sT b.out⟩,⟨by exact sT c.out⟩,⟨sb⟩⟩)))
 rw[if_neg aY]at H
 exact absurd H (by simp))
 rw[if_neg aX]at H
 exact absurd H (by simp))
 rw[if_neg ah]at H
 have c19b0:=zF ah
 clear ah
 have H':=zM H
 clear H
 have fS:=X.out
 have fT:=Y.out
 obtain⟨cD,cE,cF,cG,cH,cI⟩:=cells3 b.out
 go_wp2
 repeat(go_quiet (fail);try go_wp2)
 go_loopg [8] k2 (fun kq v8 w'=>∃(l:Int),v8= .int .i64 l∧Aside0 (spec_SameScope.l1 kq l l0_0 l0_1 l0_2 l1_0 l1_1 l1_2=some r)∧Aside0 (kq≤k2)∧Aside0 (w'.heap[K]?=some (.cells #[(.slice A0_0 l0_0.length c0_0),(.slice A0_1 l0_1.length c0_1),(.slice A0_2 l0_2.length c0_2)] 57 (0,0)))∧Aside0 (w'.heap[L]?=some (.cells #[(.slice A1_0 l1_0.length c1_0),(.slice A1_1 l1_1.length c1_1),(.slice A1_2 l1_2.length c1_2)] 57 (0,0)))∧Aside0 (Below w.heap.size w w'))
 case atStart=>exact⟨(0),sr,H',⟨Nat.le_refl _⟩,⟨by exact sT b.out⟩,⟨by exact sT c.out⟩,⟨sb⟩⟩
 case round=>(
 clear H'
 try clear an
 try clear ah
 try clear c19b0
 try clear cD
 try clear cE
 try clear cF
 try clear cG
 try clear cH
 try clear cI
 obtain⟨l,rfl,HA,bf,b,c,HB⟩:=hrel
 cases gk with
 |zero=>exact absurd HA.out (by simp[spec_SameScope.l1])
 |succ k3=>(
 have H:=HA.out
 clear HA
 simp only[spec_SameScope.l1]at H
 by_cases aL:l<(l0_2.length:Int)
 ·(
 rw[if_pos aL]at H
 have c71b0:=zT aL
 clear aL
 have bZ:=zM H
 clear H
 have fU:=X.out
 have fV:=Y.out
 obtain⟨c3,c4,c5,c6,c9,da⟩:=cells3 b.out
 go_upto_region 13 with(fail)
 repeat(go_quiet (fail);go_upto_region 13 with(fail))
 go_cut [113] (fun db wc=>∃(kq:Nat) (bg:Bool),db= .bool bg∧Aside0 (spec_SameScope.j4 kq l bg l0_0 l0_1 l0_2 l1_0 l1_1 l1_2=some r)∧Aside0 (kq≤k3)∧Aside0 (wc.heap[K]?=some (.cells #[(.slice A0_0 l0_0.length c0_0),(.slice A0_1 l0_1.length c0_1),(.slice A0_2 l0_2.length c0_2)] 57 (0,0)))∧Aside0 (wc.heap[L]?=some (.cells #[(.slice A1_0 l1_0.length c1_0),(.slice A1_1 l1_1.length c1_1),(.slice A1_2 l1_2.length c1_2)] 57 (0,0)))∧Aside0 (Below w.heap.size w wc))
 case first=>(
 have H:=bZ.out
 clear bZ
 by_cases bh:0≤l
 ·(
 rw[if_pos bh]at H
 have c75b0:=zT bh
 clear bh
 (first|rw[c75b0]|(simp only[i64_w,i32_w];rw[c75b0])|rw[c75b2]|skip)
 by_cases bi:l<(l1_2.length:Int)
 ·(
 rw[if_pos bi]at H
 have c76b0:=zT bi
 clear bi
 by_cases aM:((rd_T109 l0_2 l).f0).toList=((rd_T109 l1_2 l).f0).toList
 ·(
 rw[if_pos aM]at H
 have c77b0:(((rd_T109 l0_2 l).f0).toList==((rd_T109 l1_2 l).f0).toList)=true:=zE aM
 have c77b1:(((rd_T109 l0_2 l).f0).toList !=((rd_T109 l1_2 l).f0).toList)=false:=zY aM
 clear aM
 obtain⟨bj,b0,H⟩:=sO H
 have H':=zM H
 clear H
 have fW:=X.out
 have fX:=Y.out
 obtain⟨fY,fZ,f4,f5,f6,f7⟩:=cells3 b.out
 have aN:0≤(l:Int):=zO (by first|(with_reducible assumption)|assumption)
 have aO:l<(l0_2.length:Int):=zO (by first|(with_reducible assumption)|assumption)
 obtain⟨cJ,dc,dd,b1,a2,aV,a3,a4⟩:=at_T109 bl.out l aN aO
 cases b1
 replace a2:=sX HB a2
 replace aV:=sX HB aV
 have de:=zM a4
 have df:=zM a3
 clear a4 a3
 replace aN:=eq_true aN
 replace aO:=eq_true aO
 obtain⟨f8,f9,ga,gb,gc,gd⟩:=cells3 c.out
 have aP:0≤(l:Int):=zO (by first|(with_reducible assumption)|assumption)
 have aQ:l<(l1_2.length:Int):=zO (by first|(with_reducible assumption)|assumption)
 obtain⟨cK,dg,dh,b2,a5,aW,a6,a7⟩:=at_T109 bn.out l aP aQ
 cases b2
 replace a5:=sX HB a5
 replace aW:=sX HB aW
 have di:=zM a7
 have dj:=zM a6
 clear a7 a6
 replace aP:=eq_true aP
 replace aQ:=eq_true aQ
 have b3:0≤(l:Int):=zO (by first|(with_reducible assumption)|assumption)
 have b4:l<(l0_2.length:Int):=zO (by first|(with_reducible assumption)|assumption)
 obtain⟨ad359,gf,gg,dk,cL,b5,cM,cN⟩:=at_T109 bl.out l b3 b4
 obtain rfl:cJ=ad359:=(by injection dk)
 replace cL:=sX HB cL
 replace b5:=sX HB b5
 have b6:=zM cN
 have b7:=zM cM
 clear cN cM
 replace b3:=eq_true b3
 replace b4:=eq_true b4
 have aR:=zI (aV.symm.trans b5)
 injection aR with aR b8 b9
 subst aR
 subst b9
 clear b8
 have ca:0≤(l:Int):=zO (by first|(with_reducible assumption)|assumption)
 have cb:l<(l1_2.length:Int):=zO (by first|(with_reducible assumption)|assumption)
 obtain⟨ad360,gh,gi,dl,cO,cc,cP,cQ⟩:=at_T109 bn.out l ca cb
 obtain rfl:cK=ad360:=(by injection dl)
 replace cO:=sX HB cO
 replace cc:=sX HB cc
 have cd:=zM cQ
 have ce:=zM cP
 clear cQ cP
 replace ca:=eq_true ca
 replace cb:=eq_true cb
 have aR:=zI (aW.symm.trans cc)
 injection aR with aR b8 b9
 subst aR
 subst b9
 clear b8
 go_wp2_with (first|(go_at_call 63;(with_reducible refine(spec_l18SameTexts.calls k3 _ _ ((rd_T109 l0_2 l).f1) _ _ ((rd_T109 l1_2 l).f1) bj _ ?side1 ?side2 ?side3 ?side4 b0.out).mono ?_);(case side1=>exact sD (zC b6.out HB.out));(case side2=>exact b7.out);(case side3=>exact sD (zC cd.out HB.out));(case side4=>exact ce.out);rintro e w' ⟨rfl,⟨nd,rfl⟩⟩;(try first|exact⟨rfl,_,World.drewN_drewN _ _ _⟩|exact⟨rfl,_,Eq.trans (World.drewN_drewN _ _ _) (congrArg (World.drewN _) (Nat.add_assoc _ _ _))⟩)))
 repeat(go_quiet (first|(go_at_call 63;(with_reducible refine(spec_l18SameTexts.calls k3 _ _ ((rd_T109 l0_2 l).f1) _ _ ((rd_T109 l1_2 l).f1) bj _ ?side1 ?side2 ?side3 ?side4 b0.out).mono ?_);(case side1=>exact sD (zC b6.out HB.out));(case side2=>exact b7.out);(case side3=>exact sD (zC cd.out HB.out));(case side4=>exact ce.out);rintro e w' ⟨rfl,⟨nd,rfl⟩⟩;(try first|exact⟨rfl,_,World.drewN_drewN _ _ _⟩|exact⟨rfl,_,Eq.trans (World.drewN_drewN _ _ _) (congrArg (World.drewN _) (Nat.add_assoc _ _ _))⟩)));try go_wp2_with (first|(go_at_call 63;(with_reducible refine(spec_l18SameTexts.calls k3 _ _ ((rd_T109 l0_2 l).f1) _ _ ((rd_T109 l1_2 l).f1) bj _ ?side1 ?side2 ?side3 ?side4 b0.out).mono ?_);(case side1=>exact sD (zC b6.out HB.out));(case side2=>exact b7.out);(case side3=>exact sD (zC cd.out HB.out));(case side4=>exact ce.out);rintro e w' ⟨rfl,⟨nd,rfl⟩⟩;(try first|exact⟨rfl,_,World.drewN_drewN _ _ _⟩|exact⟨rfl,_,Eq.trans (World.drewN_drewN _ _ _) (congrArg (World.drewN _) (Nat.add_assoc _ _ _))⟩))))
 go_meet
 case rel=>exact⟨_,(!bj),sr,H',⟨by have:=aa.out;have:=ab.out;have:=bf.out;first|omega|exact Nat.le_refl _⟩,⟨by exact sT b.out⟩,⟨by exact sT c.out⟩,⟨sb⟩⟩)
 rw[if_neg aM]at H
 have c77b0:(((rd_T109 l0_2 l).f0).toList==((rd_T109 l1_2 l).f0).toList)=false:=zN aM
 have c77b1:(((rd_T109 l0_2 l).f0).toList !=((rd_T109 l1_2 l).f0).toList)=true:=zX aM
 have H':=zM H
 clear H
 have gj:=X.out
 have gl:=Y.out
 obtain⟨gm,gn,go,gp,gq,gr⟩:=cells3 b.out
 have aN:0≤(l:Int):=zO (by first|(with_reducible assumption)|assumption)
 have aO:l<(l0_2.length:Int):=zO (by first|(with_reducible assumption)|assumption)
 obtain⟨cJ,dc,dd,b1,a2,aV,a3,a4⟩:=at_T109 bl.out l aN aO
 cases b1
 replace a2:=sX HB a2
 replace aV:=sX HB aV
 have de:=zM a4
 have df:=zM a3
 clear a4 a3
 replace aN:=eq_true aN
 replace aO:=eq_true aO
 obtain⟨gs,gu,gv,gw,gx,gy⟩:=cells3 c.out
 have aP:0≤(l:Int):=zO (by first|(with_reducible assumption)|assumption)
 have aQ:l<(l1_2.length:Int):=zO (by first|(with_reducible assumption)|assumption)
 obtain⟨cK,dg,dh,b2,a5,aW,a6,a7⟩:=at_T109 bn.out l aP aQ
 cases b2
 replace a5:=sX HB a5
 replace aW:=sX HB aW
 have di:=zM a7
 have dj:=zM a6
 clear a7 a6
 replace aP:=eq_true aP
 replace aQ:=eq_true aQ
 go_wp2
 repeat(go_quiet (fail);try go_wp2)
 go_meet
 case rel=>exact⟨_,(true),sr,H',⟨by have:=aa.out;have:=ab.out;have:=bf.out;first|omega|exact Nat.le_refl _⟩,⟨by exact sT b.out⟩,⟨by exact sT c.out⟩,⟨sb⟩⟩)
 rw[if_neg bi]at H
 exact absurd H (by simp))
 rw[if_neg bh]at H
 exact absurd H (by simp))
 case rest=>(
 clear bZ
 try clear an
 try clear ah
 try clear c19b0
 try clear aL
 try clear c71b0
 try clear cD
 try clear cE
 try clear cF
 try clear c3
 try clear c4
 try clear c5
 try clear cG
 try clear cH
 try clear cI
 try clear c6
 try clear c9
 try clear da
 obtain⟨kq,bg,rfl,HA,cR,b,c,HB⟩:=hcut
 cases kq with
 |zero=>exact absurd HA.out (by simp[spec_SameScope.j4])
 |succ kj71=>(
 have H:=HA.out
 clear HA
 simp only[spec_SameScope.j4]at H
 by_cases bk:bg=true
 ·(
 subst bk
 rewrite[if_pos rfl]at H
 obtain rfl:=zI H
 go_wp2
 repeat(go_quiet (fail);try go_wp2)
 go_ret
 exact⟨sq,sb⟩)
 replace bk:=zB bk
 subst bk
 rewrite[if_neg zQ]at H
 have H':=zM H
 clear H
 go_wp2
 repeat(go_quiet (fail);try go_wp2)
 go_roundg kj71
 case measure=>have:=aa.out;have:=ab.out;have:=bf.out;have:=cR.out;omega
 case rel=>exact⟨(wrap64 (l+1)),sr,H',⟨by have:=aa.out;have:=ab.out;have:=bf.out;have:=cR.out;omega⟩,⟨by exact sT b.out⟩,⟨by exact sT c.out⟩,⟨sb⟩⟩)))
 rw[if_neg aL]at H
 have c71b0:=zF aL
 clear aL
 obtain rfl:=zI H
 have gz:=X.out
 have gA:=Y.out
 obtain⟨gB,gC,gD,gE,gF,gG⟩:=cells3 b.out
 go_wp2
 repeat(go_quiet (fail);try go_wp2)
 go_ret
 exact⟨sq,sb⟩))))))
end Go.Proofs.Ytnneadpahjkhgaa.PFnExactSameMemory
