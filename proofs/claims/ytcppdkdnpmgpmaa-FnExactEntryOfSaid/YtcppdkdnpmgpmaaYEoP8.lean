/- Printed functions: spec_l13Shape. -/
import Derived.Test.YtcppdkdnpmgpmaaYEoP0
import Derived.Test.YtcppdkdnpmgpmaaYEoP5
import Derived.Test.YtcppdkdnpmgpmaaYEoP6
import Derived.Test.YtcppdkdnpmgpmaaYEoP7
namespace Go.Proofs.Ytcppdkdnpmgpmaa.PFnExactEntryOf
open Go.RowKit Go.Proofs.YtcppdkdnpmgpmaaG Go.Proofs.YtcppdkdnpmgpmaaW.PrintWords Go.Proofs.YtcppdkdnpmgpmaaW.PrintLast Go.Proofs.YtcppdkdnpmgpmaaW.PrintMore
attribute [local go_sem] max2_int min2_int max_two min_two max_three min_three max_four min_four
set_option linter.unusedVariables false
set_option linter.unusedSimpArgs false
mutual
def spec_l13Shape.j0 : Nat → Int → Bool → List (S55) → List (S51) → Option (Bool)
 |0,_,_,_,_=>none
 |k+1,x3,x23,x166000,x166001=>if x23=true then(some false)else(spec_l13Shape.l0 k x3 0 x166000 x166001)
def spec_l13Shape.l0 : Nat → Int → Int → List (S55) → List (S51) → Option (Bool)
 |0,_,_,_,_=>none
 |k+1,x3,x4,x166000,x166001=>if x4<(x166001.length:Int)then(if 0≤x4 then((spec_IsName.f k ((rd_T51 x166001 x4).f0)).bind fun t169=>(if t169=true then((spec_l00In.f ((rd_T51 x166001 x4).f1) 1 (wrap64 (x3- 1))).bind fun t170=>(if t170=true then(if x4>0 then(if 0≤(wrap64 (x4- 1))then(if(wrap64 (x4- 1))<(x166001.length:Int)then(spec_l13Shape.j2 k x3 x4 (decide (((rd_T51 x166001 (wrap64 (x4- 1))).f1)≥((rd_T51 x166001 x4).f1))) x166000 x166001 ((rd_T51 x166001 x4).f0) ((rd_T51 x166001 x4).f1))else(none))else(none))else(spec_l13Shape.j2 k x3 x4 false x166000 x166001 ((rd_T51 x166001 x4).f0) ((rd_T51 x166001 x4).f1)))else(spec_l13Shape.j2 k x3 x4 true x166000 x166001 ((rd_T51 x166001 x4).f0) ((rd_T51 x166001 x4).f1))))else(spec_l13Shape.j2 k x3 x4 true x166000 x166001 ((rd_T51 x166001 x4).f0) ((rd_T51 x166001 x4).f1))))else(none))else(spec_l13Shape.l2 k x3 0 (-1) 0 x166000 x166001)
def spec_l13Shape.j2 : Nat → Int → Int → Bool → List (S55) → List (S51) → ByteArray → Int → Option (Bool)
 |0,_,_,_,_,_,_,_=>none
 |k+1,x3,x4,x63,x166000,x166001,x169000,x169001=>if x63=true then(some false)else(spec_l13Shape.l1 k x3 x4 0 x166000 x166001 x169000 x169001)
def spec_l13Shape.l1 : Nat → Int → Int → Int → List (S55) → List (S51) → ByteArray → Int → Option (Bool)
 |0,_,_,_,_,_,_,_=>none
 |k+1,x3,x4,x6,x166000,x166001,x169000,x169001=>if x6<x4 then(if 0≤x6 then(if x6<(x166001.length:Int)then(if((rd_T51 x166001 x6).f0).toList=x169000.toList then(some false)else(spec_l13Shape.l1 k x3 x4 (wrap64 (x6+1)) x166000 x166001 x169000 x169001))else(none))else(none))else(spec_l13Shape.l0 k x3 (wrap64 (x4+1)) x166000 x166001)
def spec_l13Shape.l2 : Nat → Int → Int → Int → Int → List (S55) → List (S51) → Option (Bool)
 |0,_,_,_,_,_,_=>none
 |k+1,x3,x7,x8,x9,x166000,x166001=>if x9<x3 then(if x9>x8 then((spec_l13Region.f k x166000 x166001 x9).bind fun bt173=>(spec_l13Shape.j5 k x3 bt173.1 bt173.2 x9 x166000 x166001))else(spec_l13Shape.j5 k x3 x7 x8 x9 x166000 x166001))else(some true)
def spec_l13Shape.j5 : Nat → Int → Int → Int → Int → List (S55) → List (S51) → Option (Bool)
 |0,_,_,_,_,_,_=>none
 |k+1,x3,x7,x8,x9,x166000,x166001=>if 0≤x9 then(if x9<(x166000.length:Int)then(if x7=0 then(spec_l13Shape.j6 k x3 x7 x8 x9 39 x166000 x166001 ((rd_T55 x166000 x9).f0) ((rd_T55 x166000 x9).f1) ((rd_T55 x166000 x9).f2))else(spec_l13Shape.j6 k x3 x7 x8 x9 38 x166000 x166001 ((rd_T55 x166000 x9).f0) ((rd_T55 x166000 x9).f1) ((rd_T55 x166000 x9).f2)))else(none))else(none)
def spec_l13Shape.j6 : Nat → Int → Int → Int → Int → Int → List (S55) → List (S51) → Int → Int → ByteArray → Option (Bool)
 |0,_,_,_,_,_,_,_,_,_,_=>none
 |k+1,x3,x7,x8,x9,x11,x166000,x166001,x177000,x177001,x177002=>(spec_ValidIns.f k x177000 x177001 x177002).bind fun t177=>(if t177=true then(if((x177000==x11) !=(x9==x8))=true then(spec_l13Shape.j7 k x3 x7 x8 x9 true x166000 x166001 x177000 x177001 x177002)else(if x9<x8 then(if x177000=39 then(spec_l13Shape.j7 k x3 x7 x8 x9 true x166000 x166001 x177000 x177001 x177002)else(spec_l13Shape.j7 k x3 x7 x8 x9 (x177000==38) x166000 x166001 x177000 x177001 x177002))else(spec_l13Shape.j7 k x3 x7 x8 x9 false x166000 x166001 x177000 x177001 x177002)))else(spec_l13Shape.j7 k x3 x7 x8 x9 true x166000 x166001 x177000 x177001 x177002))
def spec_l13Shape.j7 : Nat → Int → Int → Int → Int → Bool → List (S55) → List (S51) → Int → Int → ByteArray → Option (Bool)
 |0,_,_,_,_,_,_,_,_,_,_=>none
 |k+1,x3,x7,x8,x9,x126,x166000,x166001,x177000,x177001,x177002=>if x126=true then(some false)else(if x177000=32 then(spec_l13Shape.j8 k x3 x7 x8 x9 x177000 (x177000==32) x166000 x166001 x177000 x177001 x177002)else(spec_l13Shape.j8 k x3 x7 x8 x9 x177000 (x177000==33) x166000 x166001 x177000 x177001 x177002))
def spec_l13Shape.j8 : Nat → Int → Int → Int → Int → Int → Bool → List (S55) → List (S51) → Int → Int → ByteArray → Option (Bool)
 |0,_,_,_,_,_,_,_,_,_,_,_=>none
 |k+1,x3,x7,x8,x9,x128,x129,x166000,x166001,x177000,x177001,x177002=>if x129=true then((spec_l00In.f x177001 (wrap64 (x9+1)) x8).bind fun t178=>(if t178=true then(spec_l13Shape.l2 k x3 x7 x8 (wrap64 (x9+1)) x166000 x166001)else(some false)))else(if x128=37 then((spec_l00In.f x177001 x7 (wrap64 (x9- 1))).bind fun t179=>(if t179=true then(if 0≤x177001 then(if x177001<(x166000.length:Int)then(spec_l13Shape.j9 k x3 x7 x8 x9 (((rd_T55 x166000 x177001).f0) !=31) x166000 x166001)else(none))else(none))else(spec_l13Shape.j9 k x3 x7 x8 x9 true x166000 x166001)))else(spec_l13Shape.l2 k x3 x7 x8 (wrap64 (x9+1)) x166000 x166001))
def spec_l13Shape.j9 : Nat → Int → Int → Int → Int → Bool → List (S55) → List (S51) → Option (Bool)
 |0,_,_,_,_,_,_,_=>none
 |k+1,x3,x7,x8,x9,x157,x166000,x166001=>if x157=true then(some false)else(spec_l13Shape.l2 k x3 x7 x8 (wrap64 (x9+1)) x166000 x166001)
end
def spec_l13Shape.f (k:Nat) (l0_0:List (S55)) (l0_1:List (S51)):Option (Bool):=(spec_l00In.f (l0_0.length:Int) 1 13000).bind fun t166=>(if t166=true then(spec_l13Shape.j0 k (l0_0.length:Int) (decide ((l0_1.length:Int)>40)) l0_0 l0_1)else(spec_l13Shape.j0 k (l0_0.length:Int) true l0_0 l0_1))
set_option maxHeartbeats 8000000 in
set_option maxRecDepth 100000 in
theorem spec_l13Shape.calls (k:Nat) (A0_0:Option Addr) (c0_0:Nat) (l0_0:List (S55)) (A0_1:Option Addr) (c0_1:Nat) (l0_1:List (S51)) (r:Bool) (w:World) (hr0_0:Kd.C k55 w A0_0 l0_0.length l0_0) (hc0_0:l0_0.length≤c0_0) (hr0_1:Kd.C k51 w A0_1 l0_1.length l0_1) (hc0_1:l0_1.length≤c0_1) (h:spec_l13Shape.f k l0_0 l0_1=some r):
  Calls Try.prog 21 #[.agg #[.slice A0_0 l0_0.length c0_0,.slice A0_1 l0_1.length c0_1]] w fun e w'=>e= .returned (.bool r)∧Below w.heap.size w w':=by
 have cN:=Try.underlying32
 have cO:=Try.underlying51
 have cP:=Try.underlying55
 have aG:=zM hr0_0
 have bn:=zM hc0_0
 clear hr0_0 hc0_0
 have V:=zM hr0_1
 have bo:=zM hc0_1
 clear hr0_1 hc0_1
 have HB:=zM (Below.refl w.heap.size w)
 have H:((spec_l00In.f (l0_0.length:Int) 1 13000).bind fun bp=>(if bp=true then(spec_l13Shape.j0 k (l0_0.length:Int) (decide ((l0_1.length:Int)>40)) l0_0 l0_1)else(spec_l13Shape.j0 k (l0_0.length:Int) true l0_0 l0_1)))=some r:=h
 clear h
 have bq:=zM H
 clear H
 go_enter Try.func21,Try.ntmps21
 go_upto_region 2 with(first|((with_reducible refine gate_dst (N:=1) rfl ?_);(try(refine gate_guard (by rfl) ?_;dsimp only));refine sV (N:=1) (cs:= #[.slice A0_0 l0_0.length c0_0,.slice A0_1 l0_1.length c0_1]) (t:=32) ?_;intro B hg w3 hbox hb;have b:=zM (hbox);have bE:=sG HB hg;have bF:=sG HB hg;replace HB:=sB HB hb;clear hb hbox hg;obtain⟨D,E,F,G⟩:=cells2 b.out))
 repeat(go_quiet (first|((with_reducible refine gate_dst (N:=1) rfl ?_);(try(refine gate_guard (by rfl) ?_;dsimp only));refine sV (N:=1) (cs:= #[.slice A0_0 l0_0.length c0_0,.slice A0_1 l0_1.length c0_1]) (t:=32) ?_;intro B hg w3 hbox hb;have b:=zM (hbox);have bE:=sG HB hg;have bF:=sG HB hg;replace HB:=sB HB hb;clear hb hbox hg;obtain⟨D,E,F,G⟩:=cells2 b.out));go_upto_region 2 with(first|((with_reducible refine gate_dst (N:=1) rfl ?_);(try(refine gate_guard (by rfl) ?_;dsimp only));refine sV (N:=1) (cs:= #[.slice A0_0 l0_0.length c0_0,.slice A0_1 l0_1.length c0_1]) (t:=32) ?_;intro B hg w3 hbox hb;have b:=zM (hbox);have bE:=sG HB hg;have bF:=sG HB hg;replace HB:=sB HB hb;clear hb hbox hg;obtain⟨D,E,F,G⟩:=cells2 b.out)))
 (try simp only[zP])
 go_cut [23] (fun cy wc=>∃(kq:Nat) (aR:Bool),cy= .bool aR∧Aside0 (spec_l13Shape.j0 kq (l0_0.length:Int) aR l0_0 l0_1=some r)∧Aside0 (kq≤k)∧Aside0 (wc.heap[B]?=some (.cells #[(.slice A0_0 l0_0.length c0_0),(.slice A0_1 l0_1.length c0_1)] 32 (0,0)))∧Aside0 (Below w.heap.size w wc))
 case first=>(
 have H:=bq.out
 clear bq
 obtain⟨bp,A5,H⟩:=sO H
 by_cases c6:bp=true
 ·(
 subst c6
 rewrite[if_pos rfl]at H
 have H':=zM H
 clear H
 obtain⟨cQ,cR,cS,cT⟩:=cells2 b.out
 go_wp2_with (first|(go_at_call 28;(with_reducible refine(spec_l00In.calls (l0_0.length:Int) 1 13000 true _ A5.out).mono ?_);rintro e w' ⟨rfl,⟨nd,rfl⟩⟩;(try first|exact⟨rfl,_,World.drewN_drewN _ _ _⟩|exact⟨rfl,_,Eq.trans (World.drewN_drewN _ _ _) (congrArg (World.drewN _) (Nat.add_assoc _ _ _))⟩)))
 repeat(go_quiet (first|(go_at_call 28;(with_reducible refine(spec_l00In.calls (l0_0.length:Int) 1 13000 true _ A5.out).mono ?_);rintro e w' ⟨rfl,⟨nd,rfl⟩⟩;(try first|exact⟨rfl,_,World.drewN_drewN _ _ _⟩|exact⟨rfl,_,Eq.trans (World.drewN_drewN _ _ _) (congrArg (World.drewN _) (Nat.add_assoc _ _ _))⟩))))
 (try go_wp2)
 go_meet
 case rel=>exact⟨_,(decide ((l0_1.length:Int)>40)),sr,H',⟨by first|omega|exact Nat.le_refl _⟩,⟨by exact sT b.out⟩,⟨sb⟩⟩)
 replace c6:=zB c6
 subst c6
 rewrite[if_neg zQ]at H
 have H':=zM H
 clear H
 go_wp2_with (first|(go_at_call 28;(with_reducible refine(spec_l00In.calls (l0_0.length:Int) 1 13000 false _ A5.out).mono ?_);rintro e w' ⟨rfl,⟨nd,rfl⟩⟩;(try first|exact⟨rfl,_,World.drewN_drewN _ _ _⟩|exact⟨rfl,_,Eq.trans (World.drewN_drewN _ _ _) (congrArg (World.drewN _) (Nat.add_assoc _ _ _))⟩)))
 repeat(go_quiet (first|(go_at_call 28;(with_reducible refine(spec_l00In.calls (l0_0.length:Int) 1 13000 false _ A5.out).mono ?_);rintro e w' ⟨rfl,⟨nd,rfl⟩⟩;(try first|exact⟨rfl,_,World.drewN_drewN _ _ _⟩|exact⟨rfl,_,Eq.trans (World.drewN_drewN _ _ _) (congrArg (World.drewN _) (Nat.add_assoc _ _ _))⟩)));try go_wp2_with (first|(go_at_call 28;(with_reducible refine(spec_l00In.calls (l0_0.length:Int) 1 13000 false _ A5.out).mono ?_);rintro e w' ⟨rfl,⟨nd,rfl⟩⟩;(try first|exact⟨rfl,_,World.drewN_drewN _ _ _⟩|exact⟨rfl,_,Eq.trans (World.drewN_drewN _ _ _) (congrArg (World.drewN _) (Nat.add_assoc _ _ _))⟩))))
 go_meet
 case rel=>exact⟨_,(true),sr,H',⟨by first|omega|exact Nat.le_refl _⟩,⟨by exact sT b.out⟩,⟨sb⟩⟩)
 case rest=>(
 clear bq
 try clear D
 try clear E
 try clear F
 try clear G
 obtain⟨kq,aR,rfl,HA,g,b,HB⟩:=hcut
 cases kq with
 |zero=>exact absurd HA.out (by simp[spec_l13Shape.j0])
 |succ kj1=>(
 have H:=HA.out
 clear HA
 simp only[spec_l13Shape.j0]at H
 by_cases A:aR=true
 ·(
 subst A
 rewrite[if_pos rfl]at H
 obtain rfl:=zI H
 go_wp2
 repeat(go_quiet (fail);try go_wp2)
 go_ret
 exact⟨sq,sb⟩)
 replace A:=zB A
 subst A
 rewrite[if_neg zQ]at H
 have H':=zM H
 clear H
 go_wp2
 repeat(go_quiet (fail);try go_wp2)
 go_loopg [4] kj1 (fun kq v4 w'=>∃(d:Int),v4= .int .i64 d∧Aside0 (spec_l13Shape.l0 kq (l0_0.length:Int) d l0_0 l0_1=some r)∧Aside0 (kq≤kj1)∧Aside0 (w'.heap[B]?=some (.cells #[(.slice A0_0 l0_0.length c0_0),(.slice A0_1 l0_1.length c0_1)] 32 (0,0)))∧Aside0 (Below w.heap.size w w'))
 case atStart=>exact⟨(0),sr,H',⟨Nat.le_refl _⟩,⟨by exact sT b.out⟩,⟨sb⟩⟩
 case round=>(
 clear H'
 try clear A
 try clear D
 try clear E
 try clear F
 try clear G
 obtain⟨d,rfl,HA,i,b,HB⟩:=hrel
 cases gk with
 |zero=>exact absurd HA.out (by simp[spec_l13Shape.l0])
 |succ k2=>(
 have H:=HA.out
 clear HA
 simp only[spec_l13Shape.l0]at H
 by_cases z:d<(l0_1.length:Int)
 ·(
 rw[if_pos z]at H
 have c9b0:=zT z
 clear z
 by_cases aj:0≤d
 ·(
 rw[if_pos aj]at H
 have c10b0:=zT aj
 clear aj
 have br:=zM H
 clear H
 obtain⟨bG,bH,bI,bJ⟩:=cells2 b.out
 have aH:0≤(d:Int):=zzA
 have aI:d<(l0_1.length:Int):=zzA
 obtain⟨W,cz,aS,aT⟩:=at_T51 V.out d aH aI
 cases cz
 replace aS:=sX HB aS
 replace aT:=sX HB aT
 replace aH:=eq_true aH
 replace aI:=eq_true aI
 go_upto_region 8 with(first|((with_reducible refine gate_dst (N:=5) rfl ?_);(try(refine gate_guard (by rfl) ?_;dsimp only));refine sV (N:=5) (cs:= #[.string (⟨#[]⟩:ByteArray),.int .i64 0]) (t:=51) ?_;intro gb168 hg aU hbox hb;have n:=zM (hbox);have aV:=sG HB hg;have bK:=sG HB hg;replace HB:=sB HB hb;have o:=sN b hg;have J:=sM b hg;replace b:=sK b hb;clear hb hbox hg;have bL:=J.out;have bM:=o.out;obtain⟨aW,aX,aY,aZ⟩:=cells2 n.out))
 repeat(go_quiet (first|((with_reducible refine gate_dst (N:=5) rfl ?_);(try(refine gate_guard (by rfl) ?_;dsimp only));refine sV (N:=5) (cs:= #[.string (⟨#[]⟩:ByteArray),.int .i64 0]) (t:=51) ?_;intro gb168 hg aU hbox hb;have n:=zM (hbox);have aV:=sG HB hg;have bK:=sG HB hg;replace HB:=sB HB hb;have o:=sN b hg;have J:=sM b hg;replace b:=sK b hb;clear hb hbox hg;have bL:=J.out;have bM:=o.out;obtain⟨aW,aX,aY,aZ⟩:=cells2 n.out));go_upto_region 8 with(first|((with_reducible refine gate_dst (N:=5) rfl ?_);(try(refine gate_guard (by rfl) ?_;dsimp only));refine sV (N:=5) (cs:= #[.string (⟨#[]⟩:ByteArray),.int .i64 0]) (t:=51) ?_;intro gb168 hg aU hbox hb;have n:=zM (hbox);have aV:=sG HB hg;have bK:=sG HB hg;replace HB:=sB HB hb;have o:=sN b hg;have J:=sM b hg;replace b:=sK b hb;clear hb hbox hg;have bL:=J.out;have bM:=o.out;obtain⟨aW,aX,aY,aZ⟩:=cells2 n.out)))
 (try simp only[zP])
 go_cut [63] (fun cA wc=>∃(kq:Nat) (a0:Bool),cA= .bool a0∧Aside0 (spec_l13Shape.j2 kq (l0_0.length:Int) d a0 l0_0 l0_1 ((rd_T51 l0_1 d).f0) ((rd_T51 l0_1 d).f1)=some r)∧Aside0 (kq≤k2)∧Aside0 (wc.heap[B]?=some (.cells #[(.slice A0_0 l0_0.length c0_0),(.slice (some W) l0_1.length c0_1)] 32 (0,0)))∧Aside0 (wc.heap[gb168]?=some (.cells #[.string ((rd_T51 l0_1 d).f0),.int .i64 ((rd_T51 l0_1 d).f1)] 51 (0,0)))∧Aside0 (Below w.heap.size w wc))
 case first=>(
 have H:=br.out
 clear br
 obtain⟨cB,I,H⟩:=sO H
 by_cases a1:cB=true
 ·(
 subst a1
 rewrite[if_pos rfl]at H
 obtain⟨cC,P,H⟩:=sO H
 by_cases a2:cC=true
 ·(
 subst a2
 rewrite[if_pos rfl]at H
 by_cases ak:d>0
 ·(
 rw[if_pos ak]at H
 have c20b0:decide (0<d)=true:=zT ak
 clear ak
 (first|rw[c20b0]|(simp only[i64_w,i32_w];rw[c20b0])|rw[c20b2]|skip)
 obtain⟨ji21,hji21⟩:∃j_:Int,(wrap64 (d- 1))=j_:=⟨_,rfl⟩
 replace H:(if 0≤(ji21)then(if(ji21)<(l0_1.length:Int)then(spec_l13Shape.j2 k2 (l0_0.length:Int) d (decide (((rd_T51 l0_1 (ji21)).f1)≥((rd_T51 l0_1 d).f1))) l0_0 l0_1 ((rd_T51 l0_1 d).f0) ((rd_T51 l0_1 d).f1))else(none))else(none))=some r:=by first|(rw[hji21]at H;exact H)|(simp only[hji21]at H ⊢;exact H)
 (try rw[hji21]at I)
 (try rw[hji21]at P)
 have hji21w:(IntKind.i64.wrap (d- 1))=ji21:=(i64_w _).trans hji21
 by_cases a3:0≤(ji21)
 ·(
 rw[if_pos a3]at H
 have c22b0:=zT a3
 clear a3
 by_cases a4:(ji21)<(l0_1.length:Int)
 ·(
 rw[if_pos a4]at H
 have c23b0:=zT a4
 clear a4
 have H':=zM H
 clear H
 have cU:=J.out
 have cV:=o.out
 obtain⟨cW,cX,cY,cZ⟩:=cells2 n.out
 obtain⟨c0,c1,c2,c3⟩:=cells2 b.out
 have bs:0≤((ji21):Int):=zzA
 have bt:(ji21)<(l0_1.length:Int):=zzA
 obtain⟨ad171,cD,Q,X⟩:=at_T51 V.out (ji21) bs bt
 obtain rfl:W=ad171:=(by injection cD)
 have Y:W.block≠gb168:=zzU Q aV.out
 have Z:W.block≠gb168:=zzU Q aV.out
 replace Q:=sX HB Q
 replace X:=sX HB X
 replace Q:=(cell_far (p:=⟨gb168,0,none⟩) (zzK Y) (.string ((rd_T51 l0_1 d).f0))).trans Q
 replace X:=(cell_far (p:=⟨gb168,0,none⟩) (zzK Y) (.string ((rd_T51 l0_1 d).f0))).trans X
 replace Q:=(cell_far (p:=⟨gb168,1,none⟩) (zzK Z) (.int .i64 ((rd_T51 l0_1 d).f1))).trans Q
 replace X:=(cell_far (p:=⟨gb168,1,none⟩) (zzK Z) (.int .i64 ((rd_T51 l0_1 d).f1))).trans X
 (try have c4:=fun(n_:Nat)=>(show((((aU.drewN n_).setCell ⟨gb168,0,none⟩ (.string ((rd_T51 l0_1 d).f0))).setCell ⟨gb168,1,none⟩ (.int .i64 ((rd_T51 l0_1 d).f1)))).cell? _=some _ from Q))
 (try have c5:=fun(n_:Nat)=>(show((((aU.drewN n_).setCell ⟨gb168,0,none⟩ (.string ((rd_T51 l0_1 d).f0))).setCell ⟨gb168,1,none⟩ (.int .i64 ((rd_T51 l0_1 d).f1)))).cell? _=some _ from X))
 clear Y
 clear Z
 replace bs:=eq_true bs
 replace bt:=eq_true bt
 go_wp2_with (first|(go_at_call 29;(with_reducible refine(spec_IsName.calls k2 ((rd_T51 l0_1 d).f0) true _ I.out).mono ?_);rintro e w' ⟨rfl,⟨nd,rfl⟩⟩;(try first|exact⟨rfl,_,World.drewN_drewN _ _ _⟩|exact⟨rfl,_,Eq.trans (World.drewN_drewN _ _ _) (congrArg (World.drewN _) (Nat.add_assoc _ _ _))⟩))|(go_at_call 28;(with_reducible refine(spec_l00In.calls ((rd_T51 l0_1 d).f1) 1 (wrap64 ((l0_0.length:Int)- 1)) true _ P.out).mono ?_);rintro e w' ⟨rfl,⟨nd,rfl⟩⟩;(try first|exact⟨rfl,_,World.drewN_drewN _ _ _⟩|exact⟨rfl,_,Eq.trans (World.drewN_drewN _ _ _) (congrArg (World.drewN _) (Nat.add_assoc _ _ _))⟩)))
 repeat(go_quiet (first|(go_at_call 29;(with_reducible refine(spec_IsName.calls k2 ((rd_T51 l0_1 d).f0) true _ I.out).mono ?_);rintro e w' ⟨rfl,⟨nd,rfl⟩⟩;(try first|exact⟨rfl,_,World.drewN_drewN _ _ _⟩|exact⟨rfl,_,Eq.trans (World.drewN_drewN _ _ _) (congrArg (World.drewN _) (Nat.add_assoc _ _ _))⟩))|(go_at_call 28;(with_reducible refine(spec_l00In.calls ((rd_T51 l0_1 d).f1) 1 (wrap64 ((l0_0.length:Int)- 1)) true _ P.out).mono ?_);rintro e w' ⟨rfl,⟨nd,rfl⟩⟩;(try first|exact⟨rfl,_,World.drewN_drewN _ _ _⟩|exact⟨rfl,_,Eq.trans (World.drewN_drewN _ _ _) (congrArg (World.drewN _) (Nat.add_assoc _ _ _))⟩))))
 (try go_wp2)
 go_meet
 case rel=>exact⟨_,(decide (((rd_T51 l0_1 (ji21)).f1)≥((rd_T51 l0_1 d).f1))),(by first|rfl|(simp;done)|(simp only[←hji21]<;>(first|rfl|simp))|(simp[*];done)),H',⟨by have:=g.out;have:=i.out;first|omega|exact Nat.le_refl _⟩,⟨by(with_reducible repeat(first|refine blk_drewN ?_ _|refine blk_drew ?_|refine blk_alloc ?_ _));refine blk_far ?_ o.out _;(with_reducible repeat(first|refine blk_drewN ?_ _|refine blk_drew ?_|refine blk_alloc ?_ _));refine blk_far ?_ o.out _;exact sT b.out⟩,⟨by exact sP2 (sT n.out)⟩,⟨sb⟩⟩)
 rw[if_neg a4]at H
 exact absurd H (by simp))
 rw[if_neg a3]at H
 exact absurd H (by simp))
 rw[if_neg ak]at H
 have c20b0:decide (0<d)=false:=zF ak
 clear ak
 (first|rw[c20b0]|(simp only[i64_w,i32_w];rw[c20b0])|rw[c20b2]|skip)
 have H':=zM H
 clear H
 have c7:=J.out
 have da:=o.out
 obtain⟨db,dc,dd,de⟩:=cells2 n.out
 go_wp2_with (first|(go_at_call 29;(with_reducible refine(spec_IsName.calls k2 ((rd_T51 l0_1 d).f0) true _ I.out).mono ?_);rintro e w' ⟨rfl,⟨nd,rfl⟩⟩;(try first|exact⟨rfl,_,World.drewN_drewN _ _ _⟩|exact⟨rfl,_,Eq.trans (World.drewN_drewN _ _ _) (congrArg (World.drewN _) (Nat.add_assoc _ _ _))⟩))|(go_at_call 28;(with_reducible refine(spec_l00In.calls ((rd_T51 l0_1 d).f1) 1 (wrap64 ((l0_0.length:Int)- 1)) true _ P.out).mono ?_);rintro e w' ⟨rfl,⟨nd,rfl⟩⟩;(try first|exact⟨rfl,_,World.drewN_drewN _ _ _⟩|exact⟨rfl,_,Eq.trans (World.drewN_drewN _ _ _) (congrArg (World.drewN _) (Nat.add_assoc _ _ _))⟩)))
 repeat(go_quiet (first|(go_at_call 29;(with_reducible refine(spec_IsName.calls k2 ((rd_T51 l0_1 d).f0) true _ I.out).mono ?_);rintro e w' ⟨rfl,⟨nd,rfl⟩⟩;(try first|exact⟨rfl,_,World.drewN_drewN _ _ _⟩|exact⟨rfl,_,Eq.trans (World.drewN_drewN _ _ _) (congrArg (World.drewN _) (Nat.add_assoc _ _ _))⟩))|(go_at_call 28;(with_reducible refine(spec_l00In.calls ((rd_T51 l0_1 d).f1) 1 (wrap64 ((l0_0.length:Int)- 1)) true _ P.out).mono ?_);rintro e w' ⟨rfl,⟨nd,rfl⟩⟩;(try first|exact⟨rfl,_,World.drewN_drewN _ _ _⟩|exact⟨rfl,_,Eq.trans (World.drewN_drewN _ _ _) (congrArg (World.drewN _) (Nat.add_assoc _ _ _))⟩)));try go_wp2_with (first|(go_at_call 29;(with_reducible refine(spec_IsName.calls k2 ((rd_T51 l0_1 d).f0) true _ I.out).mono ?_);rintro e w' ⟨rfl,⟨nd,rfl⟩⟩;(try first|exact⟨rfl,_,World.drewN_drewN _ _ _⟩|exact⟨rfl,_,Eq.trans (World.drewN_drewN _ _ _) (congrArg (World.drewN _) (Nat.add_assoc _ _ _))⟩))|(go_at_call 28;(with_reducible refine(spec_l00In.calls ((rd_T51 l0_1 d).f1) 1 (wrap64 ((l0_0.length:Int)- 1)) true _ P.out).mono ?_);rintro e w' ⟨rfl,⟨nd,rfl⟩⟩;(try first|exact⟨rfl,_,World.drewN_drewN _ _ _⟩|exact⟨rfl,_,Eq.trans (World.drewN_drewN _ _ _) (congrArg (World.drewN _) (Nat.add_assoc _ _ _))⟩))))
 go_meet
 case rel=>exact⟨_,(false),sr,H',⟨by have:=g.out;have:=i.out;first|omega|exact Nat.le_refl _⟩,⟨by(with_reducible repeat(first|refine blk_drewN ?_ _|refine blk_drew ?_|refine blk_alloc ?_ _));refine blk_far ?_ o.out _;(with_reducible repeat(first|refine blk_drewN ?_ _|refine blk_drew ?_|refine blk_alloc ?_ _));refine blk_far ?_ o.out _;exact sT b.out⟩,⟨by exact sP2 (sT n.out)⟩,⟨sb⟩⟩)
 replace a2:=zB a2
 subst a2
 rewrite[if_neg zQ]at H
 have H':=zM H
 clear H
 have df:=J.out
 have dg:=o.out
 obtain⟨dh,di,dj,dk⟩:=cells2 n.out
 go_wp2_with (first|(go_at_call 29;(with_reducible refine(spec_IsName.calls k2 ((rd_T51 l0_1 d).f0) true _ I.out).mono ?_);rintro e w' ⟨rfl,⟨nd,rfl⟩⟩;(try first|exact⟨rfl,_,World.drewN_drewN _ _ _⟩|exact⟨rfl,_,Eq.trans (World.drewN_drewN _ _ _) (congrArg (World.drewN _) (Nat.add_assoc _ _ _))⟩))|(go_at_call 28;(with_reducible refine(spec_l00In.calls ((rd_T51 l0_1 d).f1) 1 (wrap64 ((l0_0.length:Int)- 1)) false _ P.out).mono ?_);rintro e w' ⟨rfl,⟨nd,rfl⟩⟩;(try first|exact⟨rfl,_,World.drewN_drewN _ _ _⟩|exact⟨rfl,_,Eq.trans (World.drewN_drewN _ _ _) (congrArg (World.drewN _) (Nat.add_assoc _ _ _))⟩)))
 repeat(go_quiet (first|(go_at_call 29;(with_reducible refine(spec_IsName.calls k2 ((rd_T51 l0_1 d).f0) true _ I.out).mono ?_);rintro e w' ⟨rfl,⟨nd,rfl⟩⟩;(try first|exact⟨rfl,_,World.drewN_drewN _ _ _⟩|exact⟨rfl,_,Eq.trans (World.drewN_drewN _ _ _) (congrArg (World.drewN _) (Nat.add_assoc _ _ _))⟩))|(go_at_call 28;(with_reducible refine(spec_l00In.calls ((rd_T51 l0_1 d).f1) 1 (wrap64 ((l0_0.length:Int)- 1)) false _ P.out).mono ?_);rintro e w' ⟨rfl,⟨nd,rfl⟩⟩;(try first|exact⟨rfl,_,World.drewN_drewN _ _ _⟩|exact⟨rfl,_,Eq.trans (World.drewN_drewN _ _ _) (congrArg (World.drewN _) (Nat.add_assoc _ _ _))⟩)));try go_wp2_with (first|(go_at_call 29;(with_reducible refine(spec_IsName.calls k2 ((rd_T51 l0_1 d).f0) true _ I.out).mono ?_);rintro e w' ⟨rfl,⟨nd,rfl⟩⟩;(try first|exact⟨rfl,_,World.drewN_drewN _ _ _⟩|exact⟨rfl,_,Eq.trans (World.drewN_drewN _ _ _) (congrArg (World.drewN _) (Nat.add_assoc _ _ _))⟩))|(go_at_call 28;(with_reducible refine(spec_l00In.calls ((rd_T51 l0_1 d).f1) 1 (wrap64 ((l0_0.length:Int)- 1)) false _ P.out).mono ?_);rintro e w' ⟨rfl,⟨nd,rfl⟩⟩;(try first|exact⟨rfl,_,World.drewN_drewN _ _ _⟩|exact⟨rfl,_,Eq.trans (World.drewN_drewN _ _ _) (congrArg (World.drewN _) (Nat.add_assoc _ _ _))⟩))))
 go_meet
 case rel=>exact⟨_,(true),sr,H',⟨by have:=g.out;have:=i.out;first|omega|exact Nat.le_refl _⟩,⟨by(with_reducible repeat(first|refine blk_drewN ?_ _|refine blk_drew ?_|refine blk_alloc ?_ _));refine blk_far ?_ o.out _;(with_reducible repeat(first|refine blk_drewN ?_ _|refine blk_drew ?_|refine blk_alloc ?_ _));refine blk_far ?_ o.out _;exact sT b.out⟩,⟨by exact sP2 (sT n.out)⟩,⟨sb⟩⟩)
 replace a1:=zB a1
 subst a1
 rewrite[if_neg zQ]at H
 have H':=zM H
 clear H
 have dl:=J.out
 have dm:=o.out
 obtain⟨dn,dp,dq,dr⟩:=cells2 n.out
 go_wp2_with (first|(go_at_call 29;(with_reducible refine(spec_IsName.calls k2 ((rd_T51 l0_1 d).f0) false _ I.out).mono ?_);rintro e w' ⟨rfl,⟨nd,rfl⟩⟩;(try first|exact⟨rfl,_,World.drewN_drewN _ _ _⟩|exact⟨rfl,_,Eq.trans (World.drewN_drewN _ _ _) (congrArg (World.drewN _) (Nat.add_assoc _ _ _))⟩)))
 repeat(go_quiet (first|(go_at_call 29;(with_reducible refine(spec_IsName.calls k2 ((rd_T51 l0_1 d).f0) false _ I.out).mono ?_);rintro e w' ⟨rfl,⟨nd,rfl⟩⟩;(try first|exact⟨rfl,_,World.drewN_drewN _ _ _⟩|exact⟨rfl,_,Eq.trans (World.drewN_drewN _ _ _) (congrArg (World.drewN _) (Nat.add_assoc _ _ _))⟩)));try go_wp2_with (first|(go_at_call 29;(with_reducible refine(spec_IsName.calls k2 ((rd_T51 l0_1 d).f0) false _ I.out).mono ?_);rintro e w' ⟨rfl,⟨nd,rfl⟩⟩;(try first|exact⟨rfl,_,World.drewN_drewN _ _ _⟩|exact⟨rfl,_,Eq.trans (World.drewN_drewN _ _ _) (congrArg (World.drewN _) (Nat.add_assoc _ _ _))⟩))))
 go_meet
 case rel=>exact⟨_,(true),sr,H',⟨by have:=g.out;have:=i.out;first|omega|exact Nat.le_refl _⟩,⟨by(with_reducible repeat(first|refine blk_drewN ?_ _|refine blk_drew ?_|refine blk_alloc ?_ _));refine blk_far ?_ o.out _;(with_reducible repeat(first|refine blk_drewN ?_ _|refine blk_drew ?_|refine blk_alloc ?_ _));refine blk_far ?_ o.out _;exact sT b.out⟩,⟨by exact sP2 (sT n.out)⟩,⟨sb⟩⟩)
 case rest=>(
 clear br
 try clear A
 try clear z
 try clear c9b0
 try clear aj
 try clear c10b0
 try clear bG
 try clear bH
 try clear aW
 try clear aX
 try clear D
 try clear E
 try clear bI
 try clear bJ
 try clear aY
 try clear aZ
 try clear F
 try clear G
 try clear aS
 try clear aT
 try clear aH
 try clear aI
 obtain⟨kq,a0,rfl,HA,a5,b,n,HB⟩:=hcut
 cases kq with
 |zero=>exact absurd HA.out (by simp[spec_l13Shape.j2])
 |succ kj10=>(
 have H:=HA.out
 clear HA
 simp only[spec_l13Shape.j2]at H
 by_cases aJ:a0=true
 ·(
 subst aJ
 rewrite[if_pos rfl]at H
 obtain rfl:=zI H
 go_wp2
 repeat(go_quiet (fail);try go_wp2)
 go_ret
 exact⟨sq,sb⟩)
 replace aJ:=zB aJ
 subst aJ
 rewrite[if_neg zQ]at H
 have H':=zM H
 clear H
 go_wp2
 repeat(go_quiet (fail);try go_wp2)
 go_loopg [6] kj10 (fun kq v6 w'=>∃(s:Int),v6= .int .i64 s∧Aside0 (spec_l13Shape.l1 kq (l0_0.length:Int) d s l0_0 l0_1 ((rd_T51 l0_1 d).f0) ((rd_T51 l0_1 d).f1)=some r)∧Aside0 (kq≤kj10)∧Aside0 (w'.heap[B]?=some (.cells #[(.slice A0_0 l0_0.length c0_0),(.slice (some W) l0_1.length c0_1)] 32 (0,0)))∧Aside0 (w'.heap[gb168]?=some (.cells #[.string ((rd_T51 l0_1 d).f0),.int .i64 ((rd_T51 l0_1 d).f1)] 51 (0,0)))∧Aside0 (Below w.heap.size w w'))
 case atStart=>exact⟨(0),sr,H',⟨Nat.le_refl _⟩,⟨by exact sT b.out⟩,⟨by exact sT n.out⟩,⟨sb⟩⟩
 case round=>(
 clear H'
 try clear A
 try clear z
 try clear c9b0
 try clear aj
 try clear c10b0
 try clear aJ
 try clear bG
 try clear bH
 try clear aW
 try clear aX
 try clear D
 try clear E
 try clear bI
 try clear bJ
 try clear aY
 try clear aZ
 try clear F
 try clear G
 try clear aS
 try clear aT
 try clear aH
 try clear aI
 obtain⟨s,rfl,HA,a6,b,n,HB⟩:=hrel
 cases gk with
 |zero=>exact absurd HA.out (by simp[spec_l13Shape.l1])
 |succ k4=>(
 have H:=HA.out
 clear HA
 simp only[spec_l13Shape.l1]at H
 by_cases al:s<d
 ·(
 rw[if_pos al]at H
 have c34b0:=zT al
 clear al
 by_cases a7:0≤s
 ·(
 rw[if_pos a7]at H
 have c35b0:=zT a7
 clear a7
 by_cases a8:s<(l0_1.length:Int)
 ·(
 rw[if_pos a8]at H
 have c36b0:=zT a8
 clear a8
 by_cases aa:((rd_T51 l0_1 s).f0).toList=((rd_T51 l0_1 d).f0).toList
 ·(
 rw[if_pos aa]at H
 have c37b0:(((rd_T51 l0_1 s).f0).toList==((rd_T51 l0_1 d).f0).toList)=true:=zE aa
 have c37b1:(((rd_T51 l0_1 s).f0).toList !=((rd_T51 l0_1 d).f0).toList)=false:=zY aa
 clear aa
 obtain rfl:=zI H
 have ds:=o.out
 have dt:=J.out
 obtain⟨du,dv,dw,dx⟩:=cells2 b.out
 have ab:0≤(s:Int):=zzA
 have ac:s<(l0_1.length:Int):=zzA
 obtain⟨ad172,bu,aK,aL⟩:=at_T51 V.out s ab ac
 obtain rfl:W=ad172:=(by injection bu)
 replace aK:=sX HB aK
 replace aL:=sX HB aL
 replace ab:=eq_true ab
 replace ac:=eq_true ac
 obtain⟨dy,dz,dA,dB⟩:=cells2 n.out
 go_wp2
 repeat(go_quiet (fail);try go_wp2)
 go_ret
 exact⟨sq,sb⟩)
 rw[if_neg aa]at H
 have c37b0:(((rd_T51 l0_1 s).f0).toList==((rd_T51 l0_1 d).f0).toList)=false:=zN aa
 have c37b1:(((rd_T51 l0_1 s).f0).toList !=((rd_T51 l0_1 d).f0).toList)=true:=zX aa
 have H':=zM H
 clear H
 have dC:=o.out
 have dD:=J.out
 obtain⟨dE,dF,dG,dH⟩:=cells2 b.out
 have ab:0≤(s:Int):=zzA
 have ac:s<(l0_1.length:Int):=zzA
 obtain⟨ad172,bu,aK,aL⟩:=at_T51 V.out s ab ac
 obtain rfl:W=ad172:=(by injection bu)
 replace aK:=sX HB aK
 replace aL:=sX HB aL
 replace ab:=eq_true ab
 replace ac:=eq_true ac
 obtain⟨dI,dJ,dK,dL⟩:=cells2 n.out
 go_wp2
 repeat(go_quiet (fail);try go_wp2)
 go_roundg k4
 case measure=>have:=g.out;have:=i.out;have:=a5.out;have:=a6.out;omega
 case rel=>exact⟨(wrap64 (s+1)),sr,H',⟨by have:=g.out;have:=i.out;have:=a5.out;have:=a6.out;omega⟩,⟨by exact sT b.out⟩,⟨by exact sT n.out⟩,⟨sb⟩⟩)
 rw[if_neg a8]at H
 exact absurd H (by simp))
 rw[if_neg a7]at H
 exact absurd H (by simp))
 rw[if_neg al]at H
 have c34b0:=zF al
 clear al
 have H':=zM H
 clear H
 go_wp2
 repeat(go_quiet (fail);try go_wp2)
 go_roundg k4
 case measure=>have:=g.out;have:=i.out;have:=a5.out;have:=a6.out;omega
 case rel=>exact⟨(wrap64 (d+1)),sr,H',⟨by have:=g.out;have:=i.out;have:=a5.out;have:=a6.out;omega⟩,⟨by exact sT b.out⟩,⟨sb⟩⟩)))))
 rw[if_neg aj]at H
 exact absurd H (by simp))
 rw[if_neg z]at H
 have c9b0:=zF z
 clear z
 have H':=zM H
 clear H
 obtain⟨am,an,ao,ap⟩:=cells2 b.out
 go_wp2
 repeat(go_quiet (fail);try go_wp2)
 go_loopg [7,8,9] k2 (fun kq v7 v8 v9 w'=>∃(a9:Int) (ad:Int) (a:Int),v7= .int .i64 a9∧v8= .int .i64 ad∧v9= .int .i64 a∧Aside0 (spec_l13Shape.l2 kq (l0_0.length:Int) a9 ad a l0_0 l0_1=some r)∧Aside0 (kq≤k2)∧Aside0 (w'.heap[B]?=some (.cells #[(.slice A0_0 l0_0.length c0_0),(.slice A0_1 l0_1.length c0_1)] 32 (0,0)))∧Aside0 (Below w.heap.size w w'))
 case atStart=>exact⟨(0),((-1)),(0),sr,sr,sr,H',⟨Nat.le_refl _⟩,⟨by exact sT b.out⟩,⟨sb⟩⟩
 case round=>(
 clear H'
 try clear A
 try clear z
 try clear c9b0
 try clear am
 try clear an
 try clear D
 try clear E
 try clear ao
 try clear ap
 try clear F
 try clear G
 obtain⟨a9,ad,a,rfl,rfl,rfl,HA,q,b,HB⟩:=hrel
 cases gk with
 |zero=>exact absurd HA.out (by simp[spec_l13Shape.l2])
 |succ k3=>(
 have H:=HA.out
 clear HA
 simp only[spec_l13Shape.l2]at H
 by_cases K:a<(l0_0.length:Int)
 ·(
 rw[if_pos K]at H
 have c45b0:=zT K
 clear K
 have bv:=zM H
 clear H
 go_upto_if 85 with(fail)
 repeat(go_quiet (fail);go_upto_if 85 with(fail))
 go_cut [7,8] (fun v7 v8 wc=>∃(kq:Nat) (m:Int) (j:Int),v7= .int .i64 m∧v8= .int .i64 j∧Aside0 (spec_l13Shape.j5 kq (l0_0.length:Int) m j a l0_0 l0_1=some r)∧Aside0 (kq≤k3)∧Aside0 (wc.heap[B]?=some (.cells #[(.slice A0_0 l0_0.length c0_0),(.slice A0_1 l0_1.length c0_1)] 32 (0,0)))∧Aside0 (Below w.heap.size w wc))
 case first=>(
 have H:=bv.out
 clear bv
 by_cases aq:a>ad
 ·(
 rw[if_pos aq]at H
 have c47b0:decide (ad<a)=true:=zT aq
 clear aq
 (first|rw[c47b0]|(simp only[i64_w,i32_w];rw[c47b0])|rw[c47b2]|skip)
 replace H:=Option.bind_eq_some_iff.mp H
 obtain⟨⟨aM,aN⟩,bN,H⟩:=H
 replace H:(spec_l13Shape.j5 k3 (l0_0.length:Int) aM aN a l0_0 l0_1)=some r:=H
 have bw:=zM bN
 clear bN
 have H':=zM H
 clear H
 obtain⟨dM,dN,dO,dP⟩:=cells2 b.out
 go_wp2_with (first|(go_at_call 30;(with_reducible refine(spec_l13Region.calls k3 _ _ l0_0 _ _ l0_1 a aM aN _ ?side1 ?side2 ?side3 ?side4 bw.out).mono ?_);(case side1=>exact sD (zC aG.out HB.out));(case side2=>exact bn.out);(case side3=>exact sD (zC V.out HB.out));(case side4=>exact bo.out);rintro e bO ⟨rfl,hb⟩;replace b:=sK b hb;replace HB:=sB HB hb;(try clear hb)))
 repeat(go_quiet (first|(go_at_call 30;(with_reducible refine(spec_l13Region.calls k3 _ _ l0_0 _ _ l0_1 a aM aN _ ?side1 ?side2 ?side3 ?side4 bw.out).mono ?_);(case side1=>exact sD (zC aG.out HB.out));(case side2=>exact bn.out);(case side3=>exact sD (zC V.out HB.out));(case side4=>exact bo.out);rintro e bO ⟨rfl,hb⟩;replace b:=sK b hb;replace HB:=sB HB hb;(try clear hb)));try go_wp2_with (first|(go_at_call 30;(with_reducible refine(spec_l13Region.calls k3 _ _ l0_0 _ _ l0_1 a aM aN _ ?side1 ?side2 ?side3 ?side4 bw.out).mono ?_);(case side1=>exact sD (zC aG.out HB.out));(case side2=>exact bn.out);(case side3=>exact sD (zC V.out HB.out));(case side4=>exact bo.out);rintro e bO ⟨rfl,hb⟩;replace b:=sK b hb;replace HB:=sB HB hb;(try clear hb))))
 go_meet
 case rel=>exact⟨_,(aM),(aN),sr,sr,H',⟨by have:=g.out;have:=i.out;have:=q.out;first|omega|exact Nat.le_refl _⟩,⟨by exact sT b.out⟩,⟨sb⟩⟩)
 rw[if_neg aq]at H
 have c47b0:decide (ad<a)=false:=zF aq
 clear aq
 (first|rw[c47b0]|(simp only[i64_w,i32_w];rw[c47b0])|rw[c47b2]|skip)
 have H':=zM H
 clear H
 go_wp2
 repeat(go_quiet (fail);try go_wp2)
 go_meet
 case rel=>exact⟨_,(a9),(ad),sr,sr,H',⟨by have:=g.out;have:=i.out;have:=q.out;first|omega|exact Nat.le_refl _⟩,⟨by exact sT b.out⟩,⟨sb⟩⟩)
 case rest=>(
 clear bv
 try clear A
 try clear z
 try clear c9b0
 try clear K
 try clear c45b0
 try clear am
 try clear an
 try clear D
 try clear E
 try clear ao
 try clear ap
 try clear F
 try clear G
 obtain⟨kq,m,j,rfl,rfl,HA,u,b,HB⟩:=hcut
 cases kq with
 |zero=>exact absurd HA.out (by simp[spec_l13Shape.j5])
 |succ kj45=>(
 have H:=HA.out
 clear HA
 simp only[spec_l13Shape.j5]at H
 by_cases R:0≤a
 ·(
 rw[if_pos R]at H
 have c51b0:=zT R
 clear R
 by_cases S:a<(l0_0.length:Int)
 ·(
 rw[if_pos S]at H
 have c52b0:=zT S
 clear S
 have bx:=zM H
 clear H
 obtain⟨ba,bb,bc,bd⟩:=cells2 b.out
 have ae:0≤(a:Int):=zzA
 have af:a<(l0_0.length:Int):=zzA
 obtain⟨aO,cE,ar,au,av⟩:=at_T55 aG.out a ae af
 cases cE
 replace ar:=sX HB ar
 replace au:=sX HB au
 replace av:=sX HB av
 replace ae:=eq_true ae
 replace af:=eq_true af
 go_upto_if 98 with(first|((with_reducible refine gate_dst (N:=10) rfl ?_);(try(refine gate_guard (by rfl) ?_;dsimp only));refine sV (N:=10) (cs:= #[.int .i64 0,.int .i64 0,.string (⟨#[]⟩:ByteArray)]) (t:=55) ?_;intro aw hg bP hbox hb;have c:=zM (hbox);have bQ:=sG HB hg;have bR:=sG HB hg;replace HB:=sB HB hb;have l:=sN b hg;have v:=sM b hg;replace b:=sK b hb;clear hb hbox hg;have bS:=v.out;have bT:=l.out;obtain⟨ax,ay,az,aA,aB,aC⟩:=cells3 c.out))
 repeat(go_quiet (first|((with_reducible refine gate_dst (N:=10) rfl ?_);(try(refine gate_guard (by rfl) ?_;dsimp only));refine sV (N:=10) (cs:= #[.int .i64 0,.int .i64 0,.string (⟨#[]⟩:ByteArray)]) (t:=55) ?_;intro aw hg bP hbox hb;have c:=zM (hbox);have bQ:=sG HB hg;have bR:=sG HB hg;replace HB:=sB HB hb;have l:=sN b hg;have v:=sM b hg;replace b:=sK b hb;clear hb hbox hg;have bS:=v.out;have bT:=l.out;obtain⟨ax,ay,az,aA,aB,aC⟩:=cells3 c.out));go_upto_if 98 with(first|((with_reducible refine gate_dst (N:=10) rfl ?_);(try(refine gate_guard (by rfl) ?_;dsimp only));refine sV (N:=10) (cs:= #[.int .i64 0,.int .i64 0,.string (⟨#[]⟩:ByteArray)]) (t:=55) ?_;intro aw hg bP hbox hb;have c:=zM (hbox);have bQ:=sG HB hg;have bR:=sG HB hg;replace HB:=sB HB hb;have l:=sN b hg;have v:=sM b hg;replace b:=sK b hb;clear hb hbox hg;have bS:=v.out;have bT:=l.out;obtain⟨ax,ay,az,aA,aB,aC⟩:=cells3 c.out)))
 (try simp only[zP])
 go_cut [11] (fun cF wc=>∃(kq:Nat) (L:Int),cF= .int .i64 L∧Aside0 (spec_l13Shape.j6 kq (l0_0.length:Int) m j a L l0_0 l0_1 ((rd_T55 l0_0 a).f0) ((rd_T55 l0_0 a).f1) ((rd_T55 l0_0 a).f2)=some r)∧Aside0 (kq≤kj45)∧Aside0 (wc.heap[B]?=some (.cells #[(.slice (some aO) l0_0.length c0_0),(.slice A0_1 l0_1.length c0_1)] 32 (0,0)))∧Aside0 (wc.heap[aw]?=some (.cells #[.int .i64 ((rd_T55 l0_0 a).f0),.int .i64 ((rd_T55 l0_0 a).f1),.string ((rd_T55 l0_0 a).f2)] 55 (0,0)))∧Aside0 (Below w.heap.size w wc))
 case first=>(
 have H:=bx.out
 clear bx
 by_cases ag:m=0
 ·(
 rw[if_pos ag]at H
 have c58b0:(m==0)=true:=zE ag
 have c58b1:(m !=0)=false:=zY ag
 clear ag
 (first|rw[c58b0]|(simp only[i64_w,i32_w];rw[c58b0])|rw[c58b2]|skip)
 have H':=zM H
 clear H
 go_wp2
 repeat(go_quiet (fail);try go_wp2)
 go_meet
 case rel=>exact⟨_,(39),sr,H',⟨by have:=g.out;have:=i.out;have:=q.out;have:=u.out;first|omega|exact Nat.le_refl _⟩,⟨by(with_reducible repeat(first|refine blk_drewN ?_ _|refine blk_drew ?_|refine blk_alloc ?_ _));refine blk_far ?_ l.out _;(with_reducible repeat(first|refine blk_drewN ?_ _|refine blk_drew ?_|refine blk_alloc ?_ _));refine blk_far ?_ l.out _;(with_reducible repeat(first|refine blk_drewN ?_ _|refine blk_drew ?_|refine blk_alloc ?_ _));refine blk_far ?_ l.out _;exact sT b.out⟩,⟨by exact sP3 (sT c.out)⟩,⟨sb⟩⟩)
 rw[if_neg ag]at H
 have c58b0:(m==0)=false:=zN ag
 have c58b1:(m !=0)=true:=zX ag
 (first|rw[c58b0]|(simp only[i64_w,i32_w];rw[c58b0])|rw[c58b2]|skip)
 have H':=zM H
 clear H
 go_wp2
 repeat(go_quiet (fail);try go_wp2)
 go_meet
 case rel=>exact⟨_,(38),sr,H',⟨by have:=g.out;have:=i.out;have:=q.out;have:=u.out;first|omega|exact Nat.le_refl _⟩,⟨by(with_reducible repeat(first|refine blk_drewN ?_ _|refine blk_drew ?_|refine blk_alloc ?_ _));refine blk_far ?_ l.out _;(with_reducible repeat(first|refine blk_drewN ?_ _|refine blk_drew ?_|refine blk_alloc ?_ _));refine blk_far ?_ l.out _;(with_reducible repeat(first|refine blk_drewN ?_ _|refine blk_drew ?_|refine blk_alloc ?_ _));refine blk_far ?_ l.out _;exact sT b.out⟩,⟨by exact sP3 (sT c.out)⟩,⟨sb⟩⟩)
 case rest=>(
 clear bx
 try clear A
 try clear z
 try clear c9b0
 try clear K
 try clear c45b0
 try clear R
 try clear c51b0
 try clear S
 try clear c52b0
 try clear am
 try clear an
 try clear D
 try clear E
 try clear ba
 try clear bb
 try clear ax
 try clear ay
 try clear az
 try clear ao
 try clear ap
 try clear F
 try clear G
 try clear bc
 try clear bd
 try clear aA
 try clear aB
 try clear aC
 try clear ar
 try clear au
 try clear av
 try clear ae
 try clear af
 obtain⟨kq,L,rfl,HA,x,b,c,HB⟩:=hcut
 cases kq with
 |zero=>exact absurd HA.out (by simp[spec_l13Shape.j6])
 |succ kj52=>(
 have H:=HA.out
 clear HA
 simp only[spec_l13Shape.j6]at H
 have bz:=zM H
 clear H
 go_upto_region 26 with(fail)
 repeat(go_quiet (fail);go_upto_region 26 with(fail))
 go_cut [126] (fun cG wc=>∃(kq:Nat) (be:Bool),cG= .bool be∧Aside0 (spec_l13Shape.j7 kq (l0_0.length:Int) m j a be l0_0 l0_1 ((rd_T55 l0_0 a).f0) ((rd_T55 l0_0 a).f1) ((rd_T55 l0_0 a).f2)=some r)∧Aside0 (kq≤kj52)∧Aside0 (wc.heap[B]?=some (.cells #[(.slice (some aO) l0_0.length c0_0),(.slice A0_1 l0_1.length c0_1)] 32 (0,0)))∧Aside0 (wc.heap[aw]?=some (.cells #[.int .i64 ((rd_T55 l0_0 a).f0),.int .i64 ((rd_T55 l0_0 a).f1),.string ((rd_T55 l0_0 a).f2)] 55 (0,0)))∧Aside0 (Below w.heap.size w wc))
 case first=>(
 have H:=bz.out
 clear bz
 obtain⟨cH,y,H⟩:=sO H
 by_cases bf:cH=true
 ·(
 subst bf
 rewrite[if_pos rfl]at H
 by_cases M:((((rd_T55 l0_0 a).f0)==L) !=(a==j))=true
 ·(
 rw[if_pos M]at H
 have c62b0:((((rd_T55 l0_0 a).f0)==L) !=(a==j))=true:=M
 (try(have c62b1:decide ((((rd_T55 l0_0 a).f0)==L)=(a==j))=false:=by simpa using M))
 (try(have c62b2:((((rd_T55 l0_0 a).f0)==L)==(a==j))=false:=by simpa using M))
 (try(have c62b3:¬((((rd_T55 l0_0 a).f0)==L)=(a==j)):=by simpa using M))
 clear M
 (first|rw[c62b0]|(simp only[i64_w,i32_w];rw[c62b0])|rw[c62b2]|skip)
 have H':=zM H
 clear H
 have dQ:=v.out
 have dR:=l.out
 obtain⟨dS,dT,dU,dV,dW,dX⟩:=cells3 c.out
 go_wp2_with (first|(go_at_call 31;(with_reducible refine(spec_ValidIns.calls kj52 ((rd_T55 l0_0 a).f0) ((rd_T55 l0_0 a).f1) ((rd_T55 l0_0 a).f2) true _ y.out).mono ?_);rintro e bU ⟨rfl,hb⟩;replace b:=sK b hb;replace c:=sK c hb;replace HB:=sB HB hb;(try clear hb);obtain⟨bV,bW,bX,bY,bZ,b0⟩:=cells3 c.out))
 repeat(go_quiet (first|(go_at_call 31;(with_reducible refine(spec_ValidIns.calls kj52 ((rd_T55 l0_0 a).f0) ((rd_T55 l0_0 a).f1) ((rd_T55 l0_0 a).f2) true _ y.out).mono ?_);rintro e bU ⟨rfl,hb⟩;replace b:=sK b hb;replace c:=sK c hb;replace HB:=sB HB hb;(try clear hb);obtain⟨bV,bW,bX,bY,bZ,b0⟩:=cells3 c.out));try go_wp2_with (first|(go_at_call 31;(with_reducible refine(spec_ValidIns.calls kj52 ((rd_T55 l0_0 a).f0) ((rd_T55 l0_0 a).f1) ((rd_T55 l0_0 a).f2) true _ y.out).mono ?_);rintro e bU ⟨rfl,hb⟩;replace b:=sK b hb;replace c:=sK c hb;replace HB:=sB HB hb;(try clear hb);obtain⟨bV,bW,bX,bY,bZ,b0⟩:=cells3 c.out)))
 go_meet
 case rel=>exact⟨_,(true),sr,H',⟨by have:=g.out;have:=i.out;have:=q.out;have:=u.out;have:=x.out;first|omega|exact Nat.le_refl _⟩,⟨by exact sT b.out⟩,⟨by exact sT c.out⟩,⟨sb⟩⟩)
 rw[if_neg M]at H
 have c62b0:((((rd_T55 l0_0 a).f0)==L) !=(a==j))=false:=by simpa using M
 (try(have c62b1:decide ((((rd_T55 l0_0 a).f0)==L)=(a==j))=true:=by simpa using M))
 (try(have c62b2:((((rd_T55 l0_0 a).f0)==L)==(a==j))=true:=by simpa using M))
 clear M
 (first|rw[c62b0]|(simp only[i64_w,i32_w];rw[c62b0])|rw[c62b2]|skip)
 by_cases aD:a<j
 ·(
 rw[if_pos aD]at H
 have c67b0:=zT aD
 clear aD
 by_cases ah:((rd_T55 l0_0 a).f0)=39
 ·(
 rw[if_pos ah]at H
 have c68b0:(((rd_T55 l0_0 a).f0)==39)=true:=zE ah
 have c68b1:(((rd_T55 l0_0 a).f0) !=39)=false:=zY ah
 clear ah
 have H':=zM H
 clear H
 have dY:=v.out
 have dZ:=l.out
 obtain⟨d0,d1,d2,d3,d4,d5⟩:=cells3 c.out
 go_wp2_with (first|(go_at_call 31;(with_reducible refine(spec_ValidIns.calls kj52 ((rd_T55 l0_0 a).f0) ((rd_T55 l0_0 a).f1) ((rd_T55 l0_0 a).f2) true _ y.out).mono ?_);rintro e b1 ⟨rfl,hb⟩;replace b:=sK b hb;replace c:=sK c hb;replace HB:=sB HB hb;(try clear hb);obtain⟨b2,b3,b4,b5,b6,b7⟩:=cells3 c.out))
 repeat(go_quiet (first|(go_at_call 31;(with_reducible refine(spec_ValidIns.calls kj52 ((rd_T55 l0_0 a).f0) ((rd_T55 l0_0 a).f1) ((rd_T55 l0_0 a).f2) true _ y.out).mono ?_);rintro e b1 ⟨rfl,hb⟩;replace b:=sK b hb;replace c:=sK c hb;replace HB:=sB HB hb;(try clear hb);obtain⟨b2,b3,b4,b5,b6,b7⟩:=cells3 c.out));try go_wp2_with (first|(go_at_call 31;(with_reducible refine(spec_ValidIns.calls kj52 ((rd_T55 l0_0 a).f0) ((rd_T55 l0_0 a).f1) ((rd_T55 l0_0 a).f2) true _ y.out).mono ?_);rintro e b1 ⟨rfl,hb⟩;replace b:=sK b hb;replace c:=sK c hb;replace HB:=sB HB hb;(try clear hb);obtain⟨b2,b3,b4,b5,b6,b7⟩:=cells3 c.out)))
 go_meet
 case rel=>exact⟨_,(true),sr,H',⟨by have:=g.out;have:=i.out;have:=q.out;have:=u.out;have:=x.out;first|omega|exact Nat.le_refl _⟩,⟨by exact sT b.out⟩,⟨by exact sT c.out⟩,⟨sb⟩⟩)
 rw[if_neg ah]at H
 have c68b0:(((rd_T55 l0_0 a).f0)==39)=false:=zN ah
 have c68b1:(((rd_T55 l0_0 a).f0) !=39)=true:=zX ah
 have H':=zM H
 clear H
 have d6:=v.out
 have d7:=l.out
 obtain⟨d8,d9,ea,eb,ec,ed⟩:=cells3 c.out
 go_wp2_with (first|(go_at_call 31;(with_reducible refine(spec_ValidIns.calls kj52 ((rd_T55 l0_0 a).f0) ((rd_T55 l0_0 a).f1) ((rd_T55 l0_0 a).f2) true _ y.out).mono ?_);rintro e b8 ⟨rfl,hb⟩;replace b:=sK b hb;replace c:=sK c hb;replace HB:=sB HB hb;(try clear hb);obtain⟨b9,ca,cb,cc,cd,ce⟩:=cells3 c.out))
 repeat(go_quiet (first|(go_at_call 31;(with_reducible refine(spec_ValidIns.calls kj52 ((rd_T55 l0_0 a).f0) ((rd_T55 l0_0 a).f1) ((rd_T55 l0_0 a).f2) true _ y.out).mono ?_);rintro e b8 ⟨rfl,hb⟩;replace b:=sK b hb;replace c:=sK c hb;replace HB:=sB HB hb;(try clear hb);obtain⟨b9,ca,cb,cc,cd,ce⟩:=cells3 c.out));try go_wp2_with (first|(go_at_call 31;(with_reducible refine(spec_ValidIns.calls kj52 ((rd_T55 l0_0 a).f0) ((rd_T55 l0_0 a).f1) ((rd_T55 l0_0 a).f2) true _ y.out).mono ?_);rintro e b8 ⟨rfl,hb⟩;replace b:=sK b hb;replace c:=sK c hb;replace HB:=sB HB hb;(try clear hb);obtain⟨b9,ca,cb,cc,cd,ce⟩:=cells3 c.out)))
 go_meet
 case rel=>exact⟨_,((((rd_T55 l0_0 a).f0)==38)),sr,H',⟨by have:=g.out;have:=i.out;have:=q.out;have:=u.out;have:=x.out;first|omega|exact Nat.le_refl _⟩,⟨by exact sT b.out⟩,⟨by exact sT c.out⟩,⟨sb⟩⟩)
 rw[if_neg aD]at H
 have c67b0:=zF aD
 clear aD
 have H':=zM H
 clear H
 have ee:=v.out
 have ef:=l.out
 obtain⟨eg,eh,ei,ej,ek,el⟩:=cells3 c.out
 go_wp2_with (first|(go_at_call 31;(with_reducible refine(spec_ValidIns.calls kj52 ((rd_T55 l0_0 a).f0) ((rd_T55 l0_0 a).f1) ((rd_T55 l0_0 a).f2) true _ y.out).mono ?_);rintro e cf ⟨rfl,hb⟩;replace b:=sK b hb;replace c:=sK c hb;replace HB:=sB HB hb;(try clear hb);obtain⟨cg,ch,ci,cj,ck,cl⟩:=cells3 c.out))
 repeat(go_quiet (first|(go_at_call 31;(with_reducible refine(spec_ValidIns.calls kj52 ((rd_T55 l0_0 a).f0) ((rd_T55 l0_0 a).f1) ((rd_T55 l0_0 a).f2) true _ y.out).mono ?_);rintro e cf ⟨rfl,hb⟩;replace b:=sK b hb;replace c:=sK c hb;replace HB:=sB HB hb;(try clear hb);obtain⟨cg,ch,ci,cj,ck,cl⟩:=cells3 c.out));try go_wp2_with (first|(go_at_call 31;(with_reducible refine(spec_ValidIns.calls kj52 ((rd_T55 l0_0 a).f0) ((rd_T55 l0_0 a).f1) ((rd_T55 l0_0 a).f2) true _ y.out).mono ?_);rintro e cf ⟨rfl,hb⟩;replace b:=sK b hb;replace c:=sK c hb;replace HB:=sB HB hb;(try clear hb);obtain⟨cg,ch,ci,cj,ck,cl⟩:=cells3 c.out)))
 go_meet
 case rel=>exact⟨_,(false),sr,H',⟨by have:=g.out;have:=i.out;have:=q.out;have:=u.out;have:=x.out;first|omega|exact Nat.le_refl _⟩,⟨by exact sT b.out⟩,⟨by exact sT c.out⟩,⟨sb⟩⟩)
 replace bf:=zB bf
 subst bf
 rewrite[if_neg zQ]at H
 have H':=zM H
 clear H
 have em:=v.out
 have en:=l.out
 obtain⟨eo,ep,er,es,et,eu⟩:=cells3 c.out
 go_wp2_with (first|(go_at_call 31;(with_reducible refine(spec_ValidIns.calls kj52 ((rd_T55 l0_0 a).f0) ((rd_T55 l0_0 a).f1) ((rd_T55 l0_0 a).f2) false _ y.out).mono ?_);rintro e cm ⟨rfl,hb⟩;replace b:=sK b hb;replace c:=sK c hb;replace HB:=sB HB hb;(try clear hb)))
 repeat(go_quiet (first|(go_at_call 31;(with_reducible refine(spec_ValidIns.calls kj52 ((rd_T55 l0_0 a).f0) ((rd_T55 l0_0 a).f1) ((rd_T55 l0_0 a).f2) false _ y.out).mono ?_);rintro e cm ⟨rfl,hb⟩;replace b:=sK b hb;replace c:=sK c hb;replace HB:=sB HB hb;(try clear hb)));try go_wp2_with (first|(go_at_call 31;(with_reducible refine(spec_ValidIns.calls kj52 ((rd_T55 l0_0 a).f0) ((rd_T55 l0_0 a).f1) ((rd_T55 l0_0 a).f2) false _ y.out).mono ?_);rintro e cm ⟨rfl,hb⟩;replace b:=sK b hb;replace c:=sK c hb;replace HB:=sB HB hb;(try clear hb))))
 go_meet
 case rel=>exact⟨_,(true),sr,H',⟨by have:=g.out;have:=i.out;have:=q.out;have:=u.out;have:=x.out;first|omega|exact Nat.le_refl _⟩,⟨by exact sT b.out⟩,⟨by exact sT c.out⟩,⟨sb⟩⟩)
 case rest=>(
 clear bz
 try clear A
 try clear z
 try clear c9b0
 try clear K
 try clear c45b0
 try clear R
 try clear c51b0
 try clear S
 try clear c52b0
 try clear am
 try clear an
 try clear D
 try clear E
 try clear ba
 try clear bb
 try clear ax
 try clear ay
 try clear az
 try clear ao
 try clear ap
 try clear F
 try clear G
 try clear bc
 try clear bd
 try clear aA
 try clear aB
 try clear aC
 try clear ar
 try clear au
 try clear av
 try clear ae
 try clear af
 obtain⟨kq,be,rfl,HA,O,b,c,HB⟩:=hcut
 cases kq with
 |zero=>exact absurd HA.out (by simp[spec_l13Shape.j7])
 |succ kj58=>(
 have H:=HA.out
 clear HA
 simp only[spec_l13Shape.j7]at H
 by_cases aE:be=true
 ·(
 subst aE
 rewrite[if_pos rfl]at H
 obtain rfl:=zI H
 go_wp2
 repeat(go_quiet (fail);try go_wp2)
 go_ret
 exact⟨sq,sb⟩)
 replace aE:=zB aE
 subst aE
 rewrite[if_neg zQ]at H
 have bA:=zM H
 clear H
 have ev:=v.out
 have ew:=l.out
 obtain⟨cn,co,cp,cq,cr,ct⟩:=cells3 c.out
 go_upto_if 129 with(fail)
 repeat(go_quiet (fail);go_upto_if 129 with(fail))
 go_cut [129] (fun cI wc=>∃(kq:Nat) (bg:Bool),cI= .bool bg∧Aside0 (spec_l13Shape.j8 kq (l0_0.length:Int) m j a ((rd_T55 l0_0 a).f0) bg l0_0 l0_1 ((rd_T55 l0_0 a).f0) ((rd_T55 l0_0 a).f1) ((rd_T55 l0_0 a).f2)=some r)∧Aside0 (kq≤kj58)∧Aside0 (wc.heap[B]?=some (.cells #[(.slice (some aO) l0_0.length c0_0),(.slice A0_1 l0_1.length c0_1)] 32 (0,0)))∧Aside0 (wc.heap[aw]?=some (.cells #[.int .i64 ((rd_T55 l0_0 a).f0),.int .i64 ((rd_T55 l0_0 a).f1),.string ((rd_T55 l0_0 a).f2)] 55 (0,0)))∧Aside0 (Below w.heap.size w wc))
 case first=>(
 have H:=bA.out
 clear bA
 by_cases ai:((rd_T55 l0_0 a).f0)=32
 ·(
 rw[if_pos ai]at H
 have c88b0:(((rd_T55 l0_0 a).f0)==32)=true:=zE ai
 have c88b1:(((rd_T55 l0_0 a).f0) !=32)=false:=zY ai
 clear ai
 (first|rw[c88b0]|(simp only[i64_w,i32_w];rw[c88b0])|rw[c88b2]|skip)
 have H':=zM H
 clear H
 go_wp2
 repeat(go_quiet (fail);try go_wp2)
 go_meet
 case rel=>exact⟨_,((((rd_T55 l0_0 a).f0)==32)),sr,H',⟨by have:=g.out;have:=i.out;have:=q.out;have:=u.out;have:=x.out;have:=O.out;first|omega|exact Nat.le_refl _⟩,⟨by exact sT b.out⟩,⟨by exact sT c.out⟩,⟨sb⟩⟩)
 rw[if_neg ai]at H
 have c88b0:(((rd_T55 l0_0 a).f0)==32)=false:=zN ai
 have c88b1:(((rd_T55 l0_0 a).f0) !=32)=true:=zX ai
 (first|rw[c88b0]|(simp only[i64_w,i32_w];rw[c88b0])|rw[c88b2]|skip)
 have H':=zM H
 clear H
 go_wp2
 repeat(go_quiet (fail);try go_wp2)
 go_meet
 case rel=>exact⟨_,((((rd_T55 l0_0 a).f0)==33)),sr,H',⟨by have:=g.out;have:=i.out;have:=q.out;have:=u.out;have:=x.out;have:=O.out;first|omega|exact Nat.le_refl _⟩,⟨by exact sT b.out⟩,⟨by exact sT c.out⟩,⟨sb⟩⟩)
 case rest=>(
 clear bA
 try clear A
 try clear z
 try clear c9b0
 try clear K
 try clear c45b0
 try clear R
 try clear c51b0
 try clear S
 try clear c52b0
 try clear aE
 try clear am
 try clear an
 try clear D
 try clear E
 try clear ba
 try clear bb
 try clear ax
 try clear ay
 try clear az
 try clear cn
 try clear co
 try clear cp
 try clear ao
 try clear ap
 try clear F
 try clear G
 try clear bc
 try clear bd
 try clear aA
 try clear aB
 try clear aC
 try clear cq
 try clear cr
 try clear ct
 try clear ar
 try clear au
 try clear av
 try clear ae
 try clear af
 obtain⟨kq,bg,rfl,HA,T,b,c,HB⟩:=hcut
 cases kq with
 |zero=>exact absurd HA.out (by simp[spec_l13Shape.j8])
 |succ kj84=>(
 have H:=HA.out
 clear HA
 simp only[spec_l13Shape.j8]at H
 by_cases aP:bg=true
 ·(
 subst aP
 rewrite[if_pos rfl]at H
 obtain⟨cJ,aF,H⟩:=sO H
 by_cases bh:cJ=true
 ·(
 subst bh
 rewrite[if_pos rfl]at H
 have H':=zM H
 clear H
 have ex:=v.out
 have ey:=l.out
 obtain⟨ez,eA,eB,eC,eD,eE⟩:=cells3 c.out
 go_wp2_with (first|(go_at_call 28;(with_reducible refine(spec_l00In.calls ((rd_T55 l0_0 a).f1) (wrap64 (a+1)) j true _ aF.out).mono ?_);rintro e w' ⟨rfl,⟨nd,rfl⟩⟩;(try first|exact⟨rfl,_,World.drewN_drewN _ _ _⟩|exact⟨rfl,_,Eq.trans (World.drewN_drewN _ _ _) (congrArg (World.drewN _) (Nat.add_assoc _ _ _))⟩)))
 repeat(go_quiet (first|(go_at_call 28;(with_reducible refine(spec_l00In.calls ((rd_T55 l0_0 a).f1) (wrap64 (a+1)) j true _ aF.out).mono ?_);rintro e w' ⟨rfl,⟨nd,rfl⟩⟩;(try first|exact⟨rfl,_,World.drewN_drewN _ _ _⟩|exact⟨rfl,_,Eq.trans (World.drewN_drewN _ _ _) (congrArg (World.drewN _) (Nat.add_assoc _ _ _))⟩)));try go_wp2_with (first|(go_at_call 28;(with_reducible refine(spec_l00In.calls ((rd_T55 l0_0 a).f1) (wrap64 (a+1)) j true _ aF.out).mono ?_);rintro e w' ⟨rfl,⟨nd,rfl⟩⟩;(try first|exact⟨rfl,_,World.drewN_drewN _ _ _⟩|exact⟨rfl,_,Eq.trans (World.drewN_drewN _ _ _) (congrArg (World.drewN _) (Nat.add_assoc _ _ _))⟩))))
 go_roundg kj84
 case measure=>have:=g.out;have:=i.out;have:=q.out;have:=u.out;have:=x.out;have:=O.out;have:=T.out;omega
 case rel=>exact⟨(m),(j),(wrap64 (a+1)),sr,sr,sr,H',⟨by have:=g.out;have:=i.out;have:=q.out;have:=u.out;have:=x.out;have:=O.out;have:=T.out;omega⟩,⟨by exact sT b.out⟩,⟨sb⟩⟩)
 replace bh:=zB bh
 subst bh
 rewrite[if_neg zQ]at H
 obtain rfl:=zI H
 have eF:=v.out
 have eG:=l.out
 obtain⟨eH,eI,eJ,eK,eL,eM⟩:=cells3 c.out
 go_wp2_with (first|(go_at_call 28;(with_reducible refine(spec_l00In.calls ((rd_T55 l0_0 a).f1) (wrap64 (a+1)) j false _ aF.out).mono ?_);rintro e w' ⟨rfl,⟨nd,rfl⟩⟩;(try first|exact⟨rfl,_,World.drewN_drewN _ _ _⟩|exact⟨rfl,_,Eq.trans (World.drewN_drewN _ _ _) (congrArg (World.drewN _) (Nat.add_assoc _ _ _))⟩)))
 repeat(go_quiet (first|(go_at_call 28;(with_reducible refine(spec_l00In.calls ((rd_T55 l0_0 a).f1) (wrap64 (a+1)) j false _ aF.out).mono ?_);rintro e w' ⟨rfl,⟨nd,rfl⟩⟩;(try first|exact⟨rfl,_,World.drewN_drewN _ _ _⟩|exact⟨rfl,_,Eq.trans (World.drewN_drewN _ _ _) (congrArg (World.drewN _) (Nat.add_assoc _ _ _))⟩)));try go_wp2_with (first|(go_at_call 28;(with_reducible refine(spec_l00In.calls ((rd_T55 l0_0 a).f1) (wrap64 (a+1)) j false _ aF.out).mono ?_);rintro e w' ⟨rfl,⟨nd,rfl⟩⟩;(try first|exact⟨rfl,_,World.drewN_drewN _ _ _⟩|exact⟨rfl,_,Eq.trans (World.drewN_drewN _ _ _) (congrArg (World.drewN _) (Nat.add_assoc _ _ _))⟩))))
 go_ret
 exact⟨sq,sb⟩)
 replace aP:=zB aP
 subst aP
 rewrite[if_neg zQ]at H
 by_cases U:((rd_T55 l0_0 a).f0)=37
 ·(
 rw[if_pos U]at H
 have c96b0:(((rd_T55 l0_0 a).f0)==37)=true:=zE U
 have c96b1:(((rd_T55 l0_0 a).f0) !=37)=false:=zY U
 clear U
 have bB:=zM H
 clear H
 go_upto_region 34 with(fail)
 repeat(go_quiet (fail);go_upto_region 34 with(fail))
 go_cut [157] (fun cK wc=>∃(kq:Nat) (bi:Bool),cK= .bool bi∧Aside0 (spec_l13Shape.j9 kq (l0_0.length:Int) m j a bi l0_0 l0_1=some r)∧Aside0 (kq≤kj84)∧Aside0 (wc.heap[B]?=some (.cells #[(.slice (some aO) l0_0.length c0_0),(.slice A0_1 l0_1.length c0_1)] 32 (0,0)))∧Aside0 (wc.heap[aw]?=some (.cells #[.int .i64 ((rd_T55 l0_0 a).f0),.int .i64 ((rd_T55 l0_0 a).f1),.string ((rd_T55 l0_0 a).f2)] 55 (0,0)))∧Aside0 (Below w.heap.size w wc))
 case first=>(
 have H:=bB.out
 clear bB
 obtain⟨cL,aQ,H⟩:=sO H
 by_cases bj:cL=true
 ·(
 subst bj
 rewrite[if_pos rfl]at H
 by_cases bk:0≤((rd_T55 l0_0 a).f1)
 ·(
 rw[if_pos bk]at H
 have c100b0:=zT bk
 clear bk
 (first|rw[c100b0]|(simp only[i64_w,i32_w];rw[c100b0])|rw[c100b2]|skip)
 by_cases bl:((rd_T55 l0_0 a).f1)<(l0_0.length:Int)
 ·(
 rw[if_pos bl]at H
 have c101b0:=zT bl
 clear bl
 have H':=zM H
 clear H
 have eN:=v.out
 have eO:=l.out
 obtain⟨eP,eQ,eR,eS,eT,eU⟩:=cells3 c.out
 obtain⟨eV,eW,eX,eY⟩:=cells2 b.out
 have bC:0≤(((rd_T55 l0_0 a).f1):Int):=zzA
 have bD:((rd_T55 l0_0 a).f1)<(l0_0.length:Int):=zzA
 obtain⟨ad180,cM,cu,cv,cw⟩:=at_T55 aG.out ((rd_T55 l0_0 a).f1) bC bD
 obtain rfl:aO=ad180:=(by injection cM)
 replace cu:=sX HB cu
 replace cv:=sX HB cv
 replace cw:=sX HB cw
 replace bC:=eq_true bC
 replace bD:=eq_true bD
 go_wp2_with (first|(go_at_call 28;(with_reducible refine(spec_l00In.calls ((rd_T55 l0_0 a).f1) m (wrap64 (a- 1)) true _ aQ.out).mono ?_);rintro e w' ⟨rfl,⟨nd,rfl⟩⟩;(try first|exact⟨rfl,_,World.drewN_drewN _ _ _⟩|exact⟨rfl,_,Eq.trans (World.drewN_drewN _ _ _) (congrArg (World.drewN _) (Nat.add_assoc _ _ _))⟩)))
 repeat(go_quiet (first|(go_at_call 28;(with_reducible refine(spec_l00In.calls ((rd_T55 l0_0 a).f1) m (wrap64 (a- 1)) true _ aQ.out).mono ?_);rintro e w' ⟨rfl,⟨nd,rfl⟩⟩;(try first|exact⟨rfl,_,World.drewN_drewN _ _ _⟩|exact⟨rfl,_,Eq.trans (World.drewN_drewN _ _ _) (congrArg (World.drewN _) (Nat.add_assoc _ _ _))⟩))))
 (try go_wp2)
 go_meet
 case rel=>exact⟨_,((((rd_T55 l0_0 ((rd_T55 l0_0 a).f1)).f0) !=31)),sr,H',⟨by have:=g.out;have:=i.out;have:=q.out;have:=u.out;have:=x.out;have:=O.out;have:=T.out;first|omega|exact Nat.le_refl _⟩,⟨by exact sT b.out⟩,⟨by exact sT c.out⟩,⟨sb⟩⟩)
 rw[if_neg bl]at H
 exact absurd H (by simp))
 rw[if_neg bk]at H
 exact absurd H (by simp))
 replace bj:=zB bj
 subst bj
 rewrite[if_neg zQ]at H
 have H':=zM H
 clear H
 have eZ:=v.out
 have e0:=l.out
 obtain⟨e1,e2,e3,e4,e5,e6⟩:=cells3 c.out
 go_wp2_with (first|(go_at_call 28;(with_reducible refine(spec_l00In.calls ((rd_T55 l0_0 a).f1) m (wrap64 (a- 1)) false _ aQ.out).mono ?_);rintro e w' ⟨rfl,⟨nd,rfl⟩⟩;(try first|exact⟨rfl,_,World.drewN_drewN _ _ _⟩|exact⟨rfl,_,Eq.trans (World.drewN_drewN _ _ _) (congrArg (World.drewN _) (Nat.add_assoc _ _ _))⟩)))
 repeat(go_quiet (first|(go_at_call 28;(with_reducible refine(spec_l00In.calls ((rd_T55 l0_0 a).f1) m (wrap64 (a- 1)) false _ aQ.out).mono ?_);rintro e w' ⟨rfl,⟨nd,rfl⟩⟩;(try first|exact⟨rfl,_,World.drewN_drewN _ _ _⟩|exact⟨rfl,_,Eq.trans (World.drewN_drewN _ _ _) (congrArg (World.drewN _) (Nat.add_assoc _ _ _))⟩)));try go_wp2_with (first|(go_at_call 28;(with_reducible refine(spec_l00In.calls ((rd_T55 l0_0 a).f1) m (wrap64 (a- 1)) false _ aQ.out).mono ?_);rintro e w' ⟨rfl,⟨nd,rfl⟩⟩;(try first|exact⟨rfl,_,World.drewN_drewN _ _ _⟩|exact⟨rfl,_,Eq.trans (World.drewN_drewN _ _ _) (congrArg (World.drewN _) (Nat.add_assoc _ _ _))⟩))))
 go_meet
 case rel=>exact⟨_,(true),sr,H',⟨by have:=g.out;have:=i.out;have:=q.out;have:=u.out;have:=x.out;have:=O.out;have:=T.out;first|omega|exact Nat.le_refl _⟩,⟨by exact sT b.out⟩,⟨by exact sT c.out⟩,⟨sb⟩⟩)
 case rest=>(
 clear bB
 try clear A
 try clear z
 try clear c9b0
 try clear K
 try clear c45b0
 try clear R
 try clear c51b0
 try clear S
 try clear c52b0
 try clear aE
 try clear aP
 try clear U
 try clear c96b0
 try clear c96b1
 try clear am
 try clear an
 try clear D
 try clear E
 try clear ba
 try clear bb
 try clear ax
 try clear ay
 try clear az
 try clear cn
 try clear co
 try clear cp
 try clear ao
 try clear ap
 try clear F
 try clear G
 try clear bc
 try clear bd
 try clear aA
 try clear aB
 try clear aC
 try clear cq
 try clear cr
 try clear ct
 try clear ar
 try clear au
 try clear av
 try clear ae
 try clear af
 obtain⟨kq,bi,rfl,HA,cx,b,c,HB⟩:=hcut
 cases kq with
 |zero=>exact absurd HA.out (by simp[spec_l13Shape.j9])
 |succ kj96=>(
 have H:=HA.out
 clear HA
 simp only[spec_l13Shape.j9]at H
 by_cases bm:bi=true
 ·(
 subst bm
 rewrite[if_pos rfl]at H
 obtain rfl:=zI H
 go_wp2
 repeat(go_quiet (fail);try go_wp2)
 go_ret
 exact⟨sq,sb⟩)
 replace bm:=zB bm
 subst bm
 rewrite[if_neg zQ]at H
 have H':=zM H
 clear H
 go_wp2
 repeat(go_quiet (fail);try go_wp2)
 go_roundg kj96
 case measure=>have:=g.out;have:=i.out;have:=q.out;have:=u.out;have:=x.out;have:=O.out;have:=T.out;have:=cx.out;omega
 case rel=>exact⟨(m),(j),(wrap64 (a+1)),sr,sr,sr,H',⟨by have:=g.out;have:=i.out;have:=q.out;have:=u.out;have:=x.out;have:=O.out;have:=T.out;have:=cx.out;omega⟩,⟨by exact sT b.out⟩,⟨sb⟩⟩)))
 rw[if_neg U]at H
 have c96b0:(((rd_T55 l0_0 a).f0)==37)=false:=zN U
 have c96b1:(((rd_T55 l0_0 a).f0) !=37)=true:=zX U
 have H':=zM H
 clear H
 go_wp2
 repeat(go_quiet (fail);try go_wp2)
 go_roundg kj84
 case measure=>have:=g.out;have:=i.out;have:=q.out;have:=u.out;have:=x.out;have:=O.out;have:=T.out;omega
 case rel=>exact⟨(m),(j),(wrap64 (a+1)),sr,sr,sr,H',⟨by have:=g.out;have:=i.out;have:=q.out;have:=u.out;have:=x.out;have:=O.out;have:=T.out;omega⟩,⟨by exact sT b.out⟩,⟨sb⟩⟩)))))))
 rw[if_neg S]at H
 exact absurd H (by simp))
 rw[if_neg R]at H
 exact absurd H (by simp))))
 rw[if_neg K]at H
 have c45b0:=zF K
 clear K
 obtain rfl:=zI H
 go_wp2
 repeat(go_quiet (fail);try go_wp2)
 go_ret
 exact⟨sq,sb⟩))))))
end Go.Proofs.Ytcppdkdnpmgpmaa.PFnExactEntryOf
