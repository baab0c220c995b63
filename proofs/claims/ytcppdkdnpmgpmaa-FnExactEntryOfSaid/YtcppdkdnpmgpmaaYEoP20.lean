/- Printed functions: impl_PatternCode_successors. -/
import Derived.Test.YtcppdkdnpmgpmaaYEoP0
namespace Go.Proofs.Ytcppdkdnpmgpmaa.PFnExactEntryOf
open Go.RowKit Go.Proofs.YtcppdkdnpmgpmaaG Go.Proofs.YtcppdkdnpmgpmaaW.PrintWords Go.Proofs.YtcppdkdnpmgpmaaW.PrintLast Go.Proofs.YtcppdkdnpmgpmaaW.PrintMore
attribute [local go_sem] max2_int min2_int max_two min_two max_three min_three max_four min_four
set_option linter.unusedVariables false
set_option linter.unusedSimpArgs false
def impl_PatternCode_successors.j0 : Nat → Int → Int → Bool → Int → Int → ByteArray → Option (List Int)
 |0,_,_,_,_,_,_=>none
 |k+1,x1,x12,x13,x313000,x313001,x313002=>if x13=true then(some (([x313001]:List Int)))else(if x12=32 then(some (([wrap64 (x1+1),x313001]:List Int)))else(if x12=39 then(some ([]:List Int))else(if x12=38 then(some ([]:List Int))else(some (([wrap64 (x1+1)]:List Int))))))
def impl_PatternCode_successors.f (k:Nat) (l0_0:List (S55)) (l0_1:List (S51)) (a1:Int):Option (List Int):=if 0≤a1 then(if a1<(l0_0.length:Int)then(if((rd_T55 l0_0 a1).f0)=33 then(impl_PatternCode_successors.j0 k a1 ((rd_T55 l0_0 a1).f0) (((rd_T55 l0_0 a1).f0)==33) ((rd_T55 l0_0 a1).f0) ((rd_T55 l0_0 a1).f1) ((rd_T55 l0_0 a1).f2))else(impl_PatternCode_successors.j0 k a1 ((rd_T55 l0_0 a1).f0) (((rd_T55 l0_0 a1).f0)==37) ((rd_T55 l0_0 a1).f0) ((rd_T55 l0_0 a1).f1) ((rd_T55 l0_0 a1).f2)))else(none))else(none)
set_option maxHeartbeats 8000000 in
set_option maxRecDepth 100000 in
theorem impl_PatternCode_successors.calls (k:Nat) (A0_0:Option Addr) (c0_0:Nat) (l0_0:List (S55)) (A0_1:Option Addr) (c0_1:Nat) (l0_1:List (S51)) (a1:Int) (r:List Int) (w:World) (hr0_0:Kd.C k55 w A0_0 l0_0.length l0_0) (hc0_0:l0_0.length≤c0_0) (hr0_1:Kd.C k51 w A0_1 l0_1.length l0_1) (hc0_1:l0_1.length≤c0_1) (h:impl_PatternCode_successors.f k l0_0 l0_1 a1=some r):
  Calls Try.prog 54 #[.agg #[.slice A0_0 l0_0.length c0_0,.slice A0_1 l0_1.length c0_1],.int .i64 a1] w fun e w'=>∃K:Value,e= .returned (K)∧Kd.R (Kd.int .i64) 2 w' w.heap.size (fun _=>True) K r∧Below w.heap.size w w':=by
 have ak:=Try.underlying32
 have al:=Try.underlying55
 have Q:=zM hr0_0
 have am:=zM hc0_0
 clear hr0_0 hc0_0
 have an:=zM hr0_1
 have ao:=zM hc0_1
 clear hr0_1 hc0_1
 have HB:=zM (Below.refl w.heap.size w)
 have H:(if 0≤a1 then(if a1<(l0_0.length:Int)then(if((rd_T55 l0_0 a1).f0)=33 then(impl_PatternCode_successors.j0 k a1 ((rd_T55 l0_0 a1).f0) (((rd_T55 l0_0 a1).f0)==33) ((rd_T55 l0_0 a1).f0) ((rd_T55 l0_0 a1).f1) ((rd_T55 l0_0 a1).f2))else(impl_PatternCode_successors.j0 k a1 ((rd_T55 l0_0 a1).f0) (((rd_T55 l0_0 a1).f0)==37) ((rd_T55 l0_0 a1).f0) ((rd_T55 l0_0 a1).f1) ((rd_T55 l0_0 a1).f2)))else(none))else(none))=some r:=h
 clear h
 by_cases m:0≤a1
 ·(
 rw[if_pos m]at H
 have c3b0:=zT m
 clear m
 by_cases n:a1<(l0_0.length:Int)
 ·(
 rw[if_pos n]at H
 have c4b0:=zT n
 clear n
 have B:=zM H
 clear H
 go_enter Try.func54,Try.ntmps54
 go_upto_if 13 with(first|((with_reducible refine gate_dst (N:=2) rfl ?_);refine sV (N:=2) (cs:= #[.slice A0_0 l0_0.length c0_0,.slice A0_1 l0_1.length c0_1]) (t:=32) ?_;intro S hg w6 hbox hb;have a:=zM (hbox);have ap:=sG HB hg;have D:=sG HB hg;replace HB:=sB HB hb;clear hb hbox hg;obtain⟨T,U,V,W⟩:=cells2 a.out;have x:0≤(a1:Int):=zzA;have y:a1<(l0_0.length:Int):=zzA;obtain⟨X,Y,E,F,G⟩:=at_T55 Q.out a1 x y;cases Y;replace E:=sX HB E;replace F:=sX HB F;replace G:=sX HB G;replace x:=eq_true x;replace y:=eq_true y)|((with_reducible refine gate_dst (N:=5) rfl ?_);refine sV (N:=5) (cs:= #[.int .i64 0,.int .i64 0,.string (⟨#[]⟩:ByteArray)]) (t:=55) ?_;intro Z hg w8 hbox hb;have b:=zM (hbox);have aq:=sG HB hg;have I:=sG HB hg;replace HB:=sB HB hb;have d:=sN a hg;have J:=sM a hg;replace a:=sK a hb;clear hb hbox hg;have ar:=J.out;have au:=d.out;obtain⟨aa,ab,ac,ad,ae,af⟩:=cells3 b.out))
 (try simp only[zP])
 go_cut [13] (fun ag wc=>∃(kq:Nat) (z:Bool),ag= .bool z∧Aside0 (impl_PatternCode_successors.j0 kq a1 ((rd_T55 l0_0 a1).f0) z ((rd_T55 l0_0 a1).f0) ((rd_T55 l0_0 a1).f1) ((rd_T55 l0_0 a1).f2)=some r)∧Aside0 (kq≤k)∧Aside0 (wc.heap[S]?=some (.cells #[(.slice (some X) l0_0.length c0_0),(.slice A0_1 l0_1.length c0_1)] 32 (0,0)))∧Aside0 (wc.heap[Z]?=some (.cells #[.int .i64 ((rd_T55 l0_0 a1).f0),.int .i64 ((rd_T55 l0_0 a1).f1),.string ((rd_T55 l0_0 a1).f2)] 55 (0,0)))∧Aside0 (Below w.heap.size w wc))
 case first=>(
 have H:=B.out
 clear B
 by_cases g:((rd_T55 l0_0 a1).f0)=33
 ·(
 rw[if_pos g]at H
 have c11b0:(((rd_T55 l0_0 a1).f0)==33)=true:=zE g
 have c11b1:(((rd_T55 l0_0 a1).f0) !=33)=false:=zY g
 clear g
 (first|rw[c11b0]|(simp only[i64_w,i32_w];rw[c11b0])|rw[c11b2]|skip)
 have H':=zM H
 clear H
 go_wp2
 go_meet
 case rel=>exact⟨_,((((rd_T55 l0_0 a1).f0)==33)),sr,H',⟨by first|omega|exact Nat.le_refl _⟩,⟨by(with_reducible repeat(first|refine blk_drewN ?_ _|refine blk_drew ?_|refine blk_alloc ?_ _));refine blk_far ?_ d.out _;(with_reducible repeat(first|refine blk_drewN ?_ _|refine blk_drew ?_|refine blk_alloc ?_ _));refine blk_far ?_ d.out _;(with_reducible repeat(first|refine blk_drewN ?_ _|refine blk_drew ?_|refine blk_alloc ?_ _));refine blk_far ?_ d.out _;exact sT a.out⟩,⟨by exact sP3 (sT b.out)⟩,⟨sb⟩⟩)
 rw[if_neg g]at H
 have c11b0:(((rd_T55 l0_0 a1).f0)==33)=false:=zN g
 have c11b1:(((rd_T55 l0_0 a1).f0) !=33)=true:=zX g
 (first|rw[c11b0]|(simp only[i64_w,i32_w];rw[c11b0])|rw[c11b2]|skip)
 have H':=zM H
 clear H
 go_wp2
 go_meet
 case rel=>exact⟨_,((((rd_T55 l0_0 a1).f0)==37)),sr,H',⟨by first|omega|exact Nat.le_refl _⟩,⟨by(with_reducible repeat(first|refine blk_drewN ?_ _|refine blk_drew ?_|refine blk_alloc ?_ _));refine blk_far ?_ d.out _;(with_reducible repeat(first|refine blk_drewN ?_ _|refine blk_drew ?_|refine blk_alloc ?_ _));refine blk_far ?_ d.out _;(with_reducible repeat(first|refine blk_drewN ?_ _|refine blk_drew ?_|refine blk_alloc ?_ _));refine blk_far ?_ d.out _;exact sT a.out⟩,⟨by exact sP3 (sT b.out)⟩,⟨sb⟩⟩)
 case rest=>(
 clear B
 try clear m
 try clear c3b0
 try clear n
 try clear c4b0
 try clear aa
 try clear ab
 try clear ac
 try clear T
 try clear U
 try clear ad
 try clear ae
 try clear af
 try clear V
 try clear W
 try clear E
 try clear F
 try clear G
 try clear x
 try clear y
 obtain⟨kq,z,rfl,HA,av,a,b,HB⟩:=hcut
 cases kq with
 |zero=>exact absurd HA.out (by simp[impl_PatternCode_successors.j0])
 |succ kj4=>(
 have H:=HA.out
 clear HA
 simp only[impl_PatternCode_successors.j0]at H
 by_cases A:z=true
 ·(
 subst A
 rewrite[if_pos rfl]at H
 obtain⟨y313,hy313⟩:∃o:List Int,o=(([((rd_T55 l0_0 a1).f1)]:List Int)):=⟨_,rfl⟩
 replace H:(some y313)=some r:=by first|(rw[hy313];with_reducible exact H)|(have c:=(Option.bind_some _ _).symm.trans H;rw[hy313];with_reducible exact c)|(have c:=(Option.bind_some _ _).symm.trans H;with_reducible exact c)|with_reducible exact H|(rw[hy313];exact H)|exact H
 have L:=zM hy313
 clear hy313
 obtain rfl:=zI H
 have aw:=J.out
 have ax:=d.out
 obtain⟨ay,az,aA,aB,aC,aD⟩:=cells3 b.out
 go_wp2_with (first|((with_reducible refine gate_dst (N:=18) rfl ?_);refine Kd.R_lit (Kd.int .i64) _ 2 ?hg (N:=18) ?hd (xs:=([((rd_T55 l0_0 a1).f1)]:List Int)) (inner:=[.int .i64 ((rd_T55 l0_0 a1).f1)]) (ok:=fun _=>True) (okp:=fun _=>True) ?hr ?hp (fun _ hk=>hk) trivial (Below.refl _ _) (Nat.le_refl _) (by simp) ?_;(case hd=>rfl);(case hg=>rfl);(case hr=>first|(go_simp;done)|(go_simp;rfl));(case hp=>exact(Reps.one (show Kd.M (Kd.int .i64) _ _ _ ((rd_T55 l0_0 a1).f1) [.int .i64 ((rd_T55 l0_0 a1).f1)] from rfl) (Reps.none _ _)));intro aE aF p hb q s;clear q s;(first|rw[←L.out]at p|(simp only[Int.reduceToNat]at p;rw[←L.out]at p));have ah:=zM (Kd.R_lower p (below_size zzR));replace a:=sK a hb;replace b:=sK b hb;replace HB:=sB HB hb;clear hb p))
 go_ret
 exact⟨_,sq,by exact sE ah.out,sb⟩)
 replace A:=zB A
 subst A
 rewrite[if_neg zQ]at H
 by_cases i:((rd_T55 l0_0 a1).f0)=32
 ·(
 rw[if_pos i]at H
 have c17b0:(((rd_T55 l0_0 a1).f0)==32)=true:=zE i
 have c17b1:(((rd_T55 l0_0 a1).f0) !=32)=false:=zY i
 clear i
 obtain⟨y316,hy316⟩:∃o:List Int,o=(([wrap64 (a1+1),((rd_T55 l0_0 a1).f1)]:List Int)):=⟨_,rfl⟩
 replace H:(some y316)=some r:=by first|(rw[hy316];with_reducible exact H)|(have c:=(Option.bind_some _ _).symm.trans H;rw[hy316];with_reducible exact c)|(have c:=(Option.bind_some _ _).symm.trans H;with_reducible exact c)|with_reducible exact H|(rw[hy316];exact H)|exact H
 have O:=zM hy316
 clear hy316
 obtain rfl:=zI H
 have aG:=J.out
 have aH:=d.out
 obtain⟨aI,aJ,aK,aL,aM,aN⟩:=cells3 b.out
 go_wp2_with (first|((with_reducible refine gate_dst (N:=25) rfl ?_);refine Kd.R_lit (Kd.int .i64) _ 2 ?hg (N:=25) ?hd (xs:=([wrap64 (a1+1),((rd_T55 l0_0 a1).f1)]:List Int)) (inner:=[.int .i64 (wrap64 (a1+1)),.int .i64 ((rd_T55 l0_0 a1).f1)]) (ok:=fun _=>True) (okp:=fun _=>True) ?hr ?hp (fun _ hk=>hk) trivial (Below.refl _ _) (Nat.le_refl _) (by simp) ?_;(case hd=>rfl);(case hg=>rfl);(case hr=>first|(go_simp;done)|(go_simp;rfl));(case hp=>exact(Reps.one (show Kd.M (Kd.int .i64) _ _ _ (wrap64 (a1+1)) [.int .i64 (wrap64 (a1+1))] from rfl) (Reps.one (show Kd.M (Kd.int .i64) _ _ _ ((rd_T55 l0_0 a1).f1) [.int .i64 ((rd_T55 l0_0 a1).f1)] from rfl) (Reps.none _ _))));intro aO aP u hb q s;clear q s;(first|rw[←O.out]at u|(simp only[Int.reduceToNat]at u;rw[←O.out]at u));have ai:=zM (Kd.R_lower u (below_size zzR));replace a:=sK a hb;replace b:=sK b hb;replace HB:=sB HB hb;clear hb u))
 go_ret
 exact⟨_,sq,by exact sE ai.out,sb⟩)
 rw[if_neg i]at H
 have c17b0:(((rd_T55 l0_0 a1).f0)==32)=false:=zN i
 have c17b1:(((rd_T55 l0_0 a1).f0) !=32)=true:=zX i
 by_cases j:((rd_T55 l0_0 a1).f0)=39
 ·(
 rw[if_pos j]at H
 have c22b0:(((rd_T55 l0_0 a1).f0)==39)=true:=zE j
 have c22b1:(((rd_T55 l0_0 a1).f0) !=39)=false:=zY j
 clear j
 obtain rfl:=zI H
 go_wp2
 go_ret
 exact⟨_,sq,by first|exact Kd.R_nil _ _ _ _ _|exact Kd.N_nil _ _ _ _ _|exact Kd.V_nil _ _ _ _ _|exact Kd.Q_nil _ _ _ _ _|exact Kd.S_nil _ _ _ _ _,sb⟩)
 rw[if_neg j]at H
 have c22b0:(((rd_T55 l0_0 a1).f0)==39)=false:=zN j
 have c22b1:(((rd_T55 l0_0 a1).f0) !=39)=true:=zX j
 by_cases l:((rd_T55 l0_0 a1).f0)=38
 ·(
 rw[if_pos l]at H
 have c23b0:(((rd_T55 l0_0 a1).f0)==38)=true:=zE l
 have c23b1:(((rd_T55 l0_0 a1).f0) !=38)=false:=zY l
 clear l
 obtain rfl:=zI H
 go_wp2
 go_ret
 exact⟨_,sq,by first|exact Kd.R_nil _ _ _ _ _|exact Kd.N_nil _ _ _ _ _|exact Kd.V_nil _ _ _ _ _|exact Kd.Q_nil _ _ _ _ _|exact Kd.S_nil _ _ _ _ _,sb⟩)
 rw[if_neg l]at H
 have c23b0:(((rd_T55 l0_0 a1).f0)==38)=false:=zN l
 have c23b1:(((rd_T55 l0_0 a1).f0) !=38)=true:=zX l
 obtain⟨y319,hy319⟩:∃o:List Int,o=(([wrap64 (a1+1)]:List Int)):=⟨_,rfl⟩
 replace H:(some y319)=some r:=by first|(rw[hy319];with_reducible exact H)|(have c:=(Option.bind_some _ _).symm.trans H;rw[hy319];with_reducible exact c)|(have c:=(Option.bind_some _ _).symm.trans H;with_reducible exact c)|with_reducible exact H|(rw[hy319];exact H)|exact H
 have P:=zM hy319
 clear hy319
 obtain rfl:=zI H
 go_wp2_with (first|((with_reducible refine gate_dst (N:=31) rfl ?_);refine Kd.R_lit (Kd.int .i64) _ 2 ?hg (N:=31) ?hd (xs:=([wrap64 (a1+1)]:List Int)) (inner:=[.int .i64 (wrap64 (a1+1))]) (ok:=fun _=>True) (okp:=fun _=>True) ?hr ?hp (fun _ hk=>hk) trivial (Below.refl _ _) (Nat.le_refl _) (by simp) ?_;(case hd=>rfl);(case hg=>rfl);(case hr=>first|(go_simp;done)|(go_simp;rfl));(case hp=>exact(Reps.one (show Kd.M (Kd.int .i64) _ _ _ (wrap64 (a1+1)) [.int .i64 (wrap64 (a1+1))] from rfl) (Reps.none _ _)));intro aQ aR v hb q s;clear q s;(first|rw[←P.out]at v|(simp only[Int.reduceToNat]at v;rw[←P.out]at v));have aj:=zM (Kd.R_lower v (below_size zzR));replace a:=sK a hb;replace b:=sK b hb;replace HB:=sB HB hb;clear hb v))
 go_ret
 exact⟨_,sq,by exact sE aj.out,sb⟩)))
 rw[if_neg n]at H
 exact absurd H (by simp))
 rw[if_neg m]at H
 exact absurd H (by simp)
end Go.Proofs.Ytcppdkdnpmgpmaa.PFnExactEntryOf
