/- Printed functions: impl_PatternCode_regions. -/
import Derived.Test.YtcppdkdnpmgpmaaYEoP0
namespace Go.Proofs.Ytcppdkdnpmgpmaa.PFnExactEntryOf
open Go.RowKit Go.Proofs.YtcppdkdnpmgpmaaG Go.Proofs.YtcppdkdnpmgpmaaW.PrintWords Go.Proofs.YtcppdkdnpmgpmaaW.PrintLast Go.Proofs.YtcppdkdnpmgpmaaW.PrintMore
attribute [local go_sem] max2_int min2_int max_two min_two max_three min_three max_four min_four
set_option linter.unusedVariables false
set_option linter.unusedSimpArgs false
def impl_PatternCode_regions.l0 : Nat → List Int → List (S51) → Int → Int → List (S55) → List (S51) → Option (List Int)
 |0,_,_,_,_,_,_=>none
 |k+1,x3,x8,x9,x10,x291000,x291001=>if x10<x9 then(if 0≤x10 then(if x10<(x8.length:Int)then(if x3.length<17592186044416 then(impl_PatternCode_regions.l0 k (x3++[(rd_T51 x8 x10).f1]) x8 x9 (wrap64 (x10+1)) x291000 x291001)else(none))else(none))else(none))else(if x3.length<17592186044416 then(some (x3++[(x291000.length:Int)]))else(none))
def impl_PatternCode_regions.f (k:Nat) (l0_0:List (S55)) (l0_1:List (S51)):Option (List Int):=impl_PatternCode_regions.l0 k (([0]:List Int)) l0_1 (l0_1.length:Int) 0 l0_0 l0_1
set_option maxHeartbeats 8000000 in
set_option maxRecDepth 100000 in
theorem impl_PatternCode_regions.calls (k:Nat) (A0_0:Option Addr) (c0_0:Nat) (l0_0:List (S55)) (A0_1:Option Addr) (c0_1:Nat) (l0_1:List (S51)) (r:List Int) (w:World) (hr0_0:Kd.C k55 w A0_0 l0_0.length l0_0) (hc0_0:l0_0.length≤c0_0) (hr0_1:Kd.C k51 w A0_1 l0_1.length l0_1) (hc0_1:l0_1.length≤c0_1) (h:impl_PatternCode_regions.f k l0_0 l0_1=some r):
  Calls Try.prog 36 #[.agg #[.slice A0_0 l0_0.length c0_0,.slice A0_1 l0_1.length c0_1]] w fun e w'=>∃D:Value,e= .returned (D)∧Kd.R (Kd.int .i64) 2 w' w.heap.size (fun _=>True) D r∧Below w.heap.size w w':=by
 have ak:=Try.underlying32
 have al:=Try.underlying51
 have am:=zM hr0_0
 have an:=zM hc0_0
 clear hr0_0 hc0_0
 have S:=zM hr0_1
 have ao:=zM hc0_1
 clear hr0_1 hc0_1
 have HB:=zM (Below.refl w.heap.size w)
 have H:(impl_PatternCode_regions.l0 k (([0]:List Int)) l0_1 (l0_1.length:Int) 0 l0_0 l0_1)=some r:=h
 clear h
 obtain⟨y291,hy291⟩:∃n:List Int,n=(([0]:List Int)):=⟨_,rfl⟩
 replace H:(impl_PatternCode_regions.l0 k y291 l0_1 (l0_1.length:Int) 0 l0_0 l0_1)=some r:=by first|(rw[hy291];with_reducible exact H)|(have d:=(Option.bind_some _ _).symm.trans H;rw[hy291];with_reducible exact d)|(have d:=(Option.bind_some _ _).symm.trans H;with_reducible exact d)|with_reducible exact H|(rw[hy291];exact H)|exact H
 have E:=zM hy291
 clear hy291
 have H':=zM H
 clear H
 go_enter Try.func36,Try.ntmps36
 go_wp2_with (first|((with_reducible refine gate_dst (N:=1) rfl ?_);refine sV (N:=1) (cs:= #[.slice A0_0 l0_0.length c0_0,.slice A0_1 l0_1.length c0_1]) (t:=32) ?_;intro y hg w2 hbox hb;have a:=zM (hbox);have ap:=sG HB hg;have p:=sG HB hg;replace HB:=sB HB hb;clear hb hbox hg)|((with_reducible refine gate_dst (N:=6) rfl ?_);refine Kd.R_lit (Kd.int .i64) _ 2 ?hg (N:=6) ?hd (xs:=([0]:List Int)) (inner:=[.int .i64 0]) (ok:=fun _=>True) (okp:=fun _=>True) ?hr ?hp (fun _ hk=>hk) trivial (Below.refl _ _) (Nat.le_refl _) (by simp) ?_;(case hd=>rfl);(case hg=>rfl);(case hr=>first|(go_simp;done)|(go_simp;rfl));(case hp=>exact(Reps.one (show Kd.M (Kd.int .i64) _ _ _ 0 [.int .i64 0] from rfl) (Reps.none _ _)));intro aq w3 q hb T U;clear T U;(first|rw[←E.out]at q|(simp only[Int.reduceToNat]at q;rw[←E.out]at q));have V:=zM (Kd.R_lower q (below_size zzR));replace a:=sK a hb;replace HB:=sB HB hb;clear hb q;obtain⟨W,X,Y,Z⟩:=cells2 a.out))
 go_loopg [3,10] k (fun kq v3 aa w'=>∃(i:List Int) (c:Int),aa= .int .i64 c∧Aside0 (impl_PatternCode_regions.l0 kq i l0_1 (l0_1.length:Int) c l0_0 l0_1=some r)∧Aside0 (kq≤k)∧Aside0 (Kd.R (Kd.int .i64) 2 w' w.heap.size (fun _=>True) v3 i)∧Aside0 (w'.heap[y]?=some (.cells #[(.slice A0_0 l0_0.length c0_0),(.slice A0_1 l0_1.length c0_1)] 32 (0,0)))∧Aside0 (Below w.heap.size w w'))
 case atStart=>exact⟨(y291),(0),sr,H',⟨Nat.le_refl _⟩,⟨by exact sE V.out⟩,⟨by exact sT a.out⟩,⟨sb⟩⟩
 case round=>(
 clear H'
 try clear W
 try clear X
 try clear Y
 try clear Z
 obtain⟨i,c,rfl,HA,F,j,a,HB⟩:=hrel
 cases gk with
 |zero=>exact absurd HA.out (by simp[impl_PatternCode_regions.l0])
 |succ k1=>(
 have H:=HA.out
 clear HA
 simp only[impl_PatternCode_regions.l0]at H
 by_cases l:c<(l0_1.length:Int)
 ·(
 rw[if_pos l]at H
 have c6b0:=zT l
 clear l
 by_cases s:0≤c
 ·(
 rw[if_pos s]at H
 have c7b0:=zT s
 clear s
 by_cases u:c<(l0_1.length:Int)
 ·(
 rw[if_pos u]at H
 have c8b0:=zT u
 clear u
 by_cases v:i.length<17592186044416
 ·(
 rw[if_pos v]at H
 have ab:=zM v
 clear v
 obtain⟨y296,hy296⟩:∃n:List Int,n=(i++[(rd_T51 l0_1 c).f1]):=⟨_,rfl⟩
 replace H:(impl_PatternCode_regions.l0 k1 y296 l0_1 (l0_1.length:Int) (wrap64 (c+1)) l0_0 l0_1)=some r:=by first|(rw[hy296];with_reducible exact H)|(have d:=(Option.bind_some _ _).symm.trans H;rw[hy296];with_reducible exact d)|(have d:=(Option.bind_some _ _).symm.trans H;with_reducible exact d)|with_reducible exact H|(rw[hy296];exact H)|exact H
 have ac:=zM hy296
 clear hy296
 have H':=zM H
 clear H
 have z:0≤(c:Int):=zzA
 have A:c<(l0_1.length:Int):=zzA
 obtain⟨ad,ae,G,I⟩:=at_T51 S.out c z A
 cases ae
 replace G:=sX HB G
 replace I:=sX HB I
 replace z:=eq_true z
 replace A:=eq_true A
 go_wp2_with (first|((with_reducible refine gate_dst (N:=5) rfl ?_);refine sV (N:=5) (cs:= #[.string (⟨#[]⟩:ByteArray),.int .i64 0]) (t:=51) ?_;intro J hg ar hbox hb;replace j:=zM (Kd.R_below (sE j.out) hb);have m:=zM (hbox);have au:=sG HB hg;have K:=sG HB hg;replace HB:=sB HB hb;have B:=sN a hg;have af:=sM a hg;replace a:=sK a hb;clear hb hbox hg;have av:=af.out;have aw:=B.out;obtain⟨ax,ay,az,aA⟩:=cells2 m.out)|((with_reducible refine gate_builtin (b:= .append) (xs:= #[.tmp 14,.tmp 17]) rfl ?_);at_builtin;refine Kd.R_append (Kd.int .i64) (w0:=w) w.heap.size rfl (.tmp 14) (.tmp 17) 52 2 (.int .i64 0) 8 rfl Try.underlying52 info2 rfl (by decide) (by omega) u3 i ((rd_T51 l0_1 c).f1) [.int .i64 ((rd_T51 l0_1 c).f1)] (fun _=>True) (fun _=>False) rfl (by first|(go_simp;done)|(go_simp;rfl)) ?aP (fun _ hk=>hk.elim) ?aF ?aO ?aB ?aS ?aL ?_;(case aP=>exact rfl);(case aB=>exact zzR);(case aF=>exact(fun _ _=>trivial));(case aO=>exact(by(with_reducible repeat(first|apply Kd.R_alloc|apply Kd.R_drewN|apply Kd.R_drew));exact Kd.R_mono (sRF2 (g:=J) (Kd.R_types j.out m.out (by decide)) (fun _ hk=>hk.2)) (fun _ hk=>trivial)));(case aS=>exact(below_size zzR));(case aL=>have:=ab.out;omega);intro aC aD ho hb hg hat;rw[←ac.out]at ho;have L:=zM (blk_grown (g:=y) (o:= .cells #[.slice A0_0 l0_0.length c0_0,.slice (some ad) l0_1.length c0_1] 32 (0,0)) (by(with_reducible repeat(first|refine blk_drewN ?_ _|refine blk_drew ?_|refine blk_alloc ?_ _));refine blk_far ?_ B.out _;(with_reducible repeat(first|refine blk_drewN ?_ _|refine blk_drew ?_|refine blk_alloc ?_ _));refine blk_far ?_ B.out _;exact sT a.out) hg (Kd.R_ne j.out a.out (by decide)));have O:=zM (blk_grown (g:=J) (o:= .cells #[.string ((rd_T51 l0_1 c).f0),.int .i64 ((rd_T51 l0_1 c).f1)] 51 (0,0)) (by exact sP2 (sT m.out)) hg (Kd.R_ne j.out m.out (by decide)));have P:=zM (hb);have Q:=zM (ho);clear a;clear m;clear HB;clear j;have a:=L;have m:=O;have HB:=P;have ag:=Q;clear L O P Q;clear ho hb hg hat))
 go_roundg k1
 case measure=>have:=F.out;omega
 case rel=>exact⟨(y296),(wrap64 (c+1)),sr,H',⟨by have:=F.out;omega⟩,⟨by exact sE ag.out⟩,⟨by exact sT a.out⟩,⟨sb⟩⟩)
 rw[if_neg v]at H
 exact absurd H (by simp))
 rw[if_neg u]at H
 exact absurd H (by simp))
 rw[if_neg s]at H
 exact absurd H (by simp))
 rw[if_neg l]at H
 have c6b0:=zF l
 clear l
 by_cases x:i.length<17592186044416
 ·(
 rw[if_pos x]at H
 have ah:=zM x
 clear x
 obtain⟨y299,hy299⟩:∃n:List Int,n=(i++[(l0_0.length:Int)]):=⟨_,rfl⟩
 replace H:(some y299)=some r:=by first|(rw[hy299];with_reducible exact H)|(have d:=(Option.bind_some _ _).symm.trans H;rw[hy299];with_reducible exact d)|(have d:=(Option.bind_some _ _).symm.trans H;with_reducible exact d)|with_reducible exact H|(rw[hy299];exact H)|exact H
 have ai:=zM hy299
 clear hy299
 obtain rfl:=zI H
 obtain⟨aE,aG,aH,aI⟩:=cells2 a.out
 go_wp2_with (first|((with_reducible refine gate_builtin (b:= .append) (xs:= #[.tmp 20,.tmp 24]) rfl ?_);at_builtin;refine Kd.R_append (Kd.int .i64) (w0:=w) w.heap.size rfl (.tmp 20) (.tmp 24) 52 2 (.int .i64 0) 8 rfl Try.underlying52 info2 rfl (by decide) (by omega) u3 i (l0_0.length:Int) [.int .i64 (l0_0.length:Int)] (fun _=>True) (fun _=>False) rfl rfl ?aP (fun _ hk=>hk.elim) ?aF ?aO ?aB ?aS ?aL ?_;(case aP=>exact rfl);(case aB=>exact zzR);(case aF=>exact(fun _ _=>trivial));(case aO=>exact(sE j.out));(case aS=>exact(below_size zzR));(case aL=>have:=ah.out;omega);intro aJ aK ho hb hg hat;rw[←ai.out]at ho;replace a:=zM (blk_grown (g:=y) (o:= .cells #[.slice A0_0 l0_0.length c0_0,.slice A0_1 l0_1.length c0_1] 32 (0,0)) (sT a.out) hg (Kd.R_ne j.out a.out (by decide)));replace HB:=zM (hb);have aj:=zM (ho);clear j;clear ho hb hg hat))
 go_ret
 exact⟨_,sq,by exact sE aj.out,sb⟩)
 rw[if_neg x]at H
 exact absurd H (by simp)))
end Go.Proofs.Ytcppdkdnpmgpmaa.PFnExactEntryOf
