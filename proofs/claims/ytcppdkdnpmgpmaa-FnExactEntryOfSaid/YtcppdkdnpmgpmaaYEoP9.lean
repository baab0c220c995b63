/- Printed functions: spec_l13Next. -/
import Derived.Test.YtcppdkdnpmgpmaaYEoP0
namespace Go.Proofs.Ytcppdkdnpmgpmaa.PFnExactEntryOf
open Go.RowKit Go.Proofs.YtcppdkdnpmgpmaaG Go.Proofs.YtcppdkdnpmgpmaaW.PrintWords Go.Proofs.YtcppdkdnpmgpmaaW.PrintLast Go.Proofs.YtcppdkdnpmgpmaaW.PrintMore
attribute [local go_sem] max2_int min2_int max_two min_two max_three min_three max_four min_four
set_option linter.unusedVariables false
set_option linter.unusedSimpArgs false
def spec_l13Next.j0 : Nat → Int → Int → Bool → Int → Int → ByteArray → Option (List Int)
 |0,_,_,_,_,_,_=>none
 |k+1,x1,x6,x7,x182000,x182001,x182002=>if x7=true then(some (([x182001]:List Int)))else(if x6=32 then(some (([wrap64 (x1+1),x182001]:List Int)))else(if x6=39 then(some (([]:List Int)))else(if x6=38 then(some (([]:List Int)))else(some (([wrap64 (x1+1)]:List Int))))))
def spec_l13Next.f (k:Nat) (a0_0:Int) (a0_1:Int) (a0_2:ByteArray) (a1:Int):Option (List Int):=if a0_0=33 then(spec_l13Next.j0 k a1 a0_0 (a0_0==33) a0_0 a0_1 a0_2)else(spec_l13Next.j0 k a1 a0_0 (a0_0==37) a0_0 a0_1 a0_2)
set_option maxHeartbeats 8000000 in
set_option maxRecDepth 100000 in
theorem spec_l13Next.calls (k:Nat) (a0_0:Int) (a0_1:Int) (a0_2:ByteArray) (a1:Int) (r:List Int) (w:World) (h:spec_l13Next.f k a0_0 a0_1 a0_2 a1=some r):
  Calls Try.prog 32 #[.agg #[.int .i64 a0_0,.int .i64 a0_1,.string a0_2],.int .i64 a1] w fun e w'=>∃z:Value,e= .returned (z)∧Kd.R (Kd.int .i64) 2 w' w.heap.size (fun _=>True) z r∧Below w.heap.size w w':=by
 have W:=Try.underlying55
 have HB:=zM (Below.refl w.heap.size w)
 have H:(if a0_0=33 then(spec_l13Next.j0 k a1 a0_0 (a0_0==33) a0_0 a0_1 a0_2)else(spec_l13Next.j0 k a1 a0_0 (a0_0==37) a0_0 a0_1 a0_2))=some r:=h
 clear h
 have y:=zM H
 clear H
 go_enter Try.func32,Try.ntmps32
 go_upto_if 7 with(first|((with_reducible refine gate_dst (N:=2) rfl ?_);refine sV (N:=2) (cs:= #[.int .i64 a0_0,.int .i64 a0_1,.string a0_2]) (t:=55) ?_;intro F hg X hbox hb;have b:=zM (hbox);have Y:=sG HB hg;have n:=sG HB hg;replace HB:=sB HB hb;clear hb hbox hg;obtain⟨G,I,J,K,L,O⟩:=cells3 b.out))
 (try simp only[zP])
 go_cut [7] (fun P wc=>∃(kq:Nat) (v:Bool),P= .bool v∧Aside0 (spec_l13Next.j0 kq a1 a0_0 v a0_0 a0_1 a0_2=some r)∧Aside0 (kq≤k)∧Aside0 (wc.heap[F]?=some (.cells #[.int .i64 a0_0,.int .i64 a0_1,.string a0_2] 55 (0,0)))∧Aside0 (Below w.heap.size w wc))
 case first=>(
 have H:=y.out
 clear y
 by_cases i:a0_0=33
 ·(
 rw[if_pos i]at H
 have c6b0:(a0_0==33)=true:=zE i
 have c6b1:(a0_0 !=33)=false:=zY i
 clear i
 (first|rw[c6b0]|(simp only[i64_w,i32_w];rw[c6b0])|rw[c6b2]|skip)
 have H':=zM H
 clear H
 go_wp2
 go_meet
 case rel=>exact⟨_,((a0_0==33)),sr,H',⟨by first|omega|exact Nat.le_refl _⟩,⟨by exact sT b.out⟩,⟨sb⟩⟩)
 rw[if_neg i]at H
 have c6b0:(a0_0==33)=false:=zN i
 have c6b1:(a0_0 !=33)=true:=zX i
 (first|rw[c6b0]|(simp only[i64_w,i32_w];rw[c6b0])|rw[c6b2]|skip)
 have H':=zM H
 clear H
 go_wp2
 go_meet
 case rel=>exact⟨_,((a0_0==37)),sr,H',⟨by first|omega|exact Nat.le_refl _⟩,⟨by exact sT b.out⟩,⟨sb⟩⟩)
 case rest=>(
 clear y
 try clear G
 try clear I
 try clear J
 try clear K
 try clear L
 try clear O
 obtain⟨kq,v,rfl,HA,Z,b,HB⟩:=hcut
 cases kq with
 |zero=>exact absurd HA.out (by simp[spec_l13Next.j0])
 |succ kj2=>(
 have H:=HA.out
 clear HA
 simp only[spec_l13Next.j0]at H
 by_cases x:v=true
 ·(
 subst x
 rewrite[if_pos rfl]at H
 obtain⟨y182,hy182⟩:∃c:List Int,c=(([a0_1]:List Int)):=⟨_,rfl⟩
 replace H:(some y182)=some r:=by first|(rw[hy182];with_reducible exact H)|(have a:=(Option.bind_some _ _).symm.trans H;rw[hy182];with_reducible exact a)|(have a:=(Option.bind_some _ _).symm.trans H;with_reducible exact a)|with_reducible exact H|(rw[hy182];exact H)|exact H
 have A:=zM hy182
 clear hy182
 obtain rfl:=zI H
 obtain⟨aa,ab,ac,ad,ae,af⟩:=cells3 b.out
 go_wp2_with (first|((with_reducible refine gate_dst (N:=12) rfl ?_);refine Kd.R_lit (Kd.int .i64) _ 2 ?hg (N:=12) ?hd (xs:=([a0_1]:List Int)) (inner:=[.int .i64 a0_1]) (ok:=fun _=>True) (okp:=fun _=>True) ?hr ?hp (fun _ hk=>hk) trivial (Below.refl _ _) (Nat.le_refl _) (by simp) ?_;(case hd=>rfl);(case hg=>rfl);(case hr=>first|(go_simp;done)|(go_simp;rfl));(case hp=>exact(Reps.one (show Kd.M (Kd.int .i64) _ _ _ a0_1 [.int .i64 a0_1] from rfl) (Reps.none _ _)));intro ag w9 o hb d g;clear d g;(first|rw[←A.out]at o|(simp only[Int.reduceToNat]at o;rw[←A.out]at o));have Q:=zM (Kd.R_lower o (below_size zzR));replace b:=sK b hb;replace HB:=sB HB hb;clear hb o))
 go_ret
 exact⟨_,sq,by exact sE Q.out,sb⟩)
 replace x:=zB x
 subst x
 rewrite[if_neg zQ]at H
 by_cases j:a0_0=32
 ·(
 rw[if_pos j]at H
 have c11b0:(a0_0==32)=true:=zE j
 have c11b1:(a0_0 !=32)=false:=zY j
 clear j
 obtain⟨y185,hy185⟩:∃c:List Int,c=(([wrap64 (a1+1),a0_1]:List Int)):=⟨_,rfl⟩
 replace H:(some y185)=some r:=by first|(rw[hy185];with_reducible exact H)|(have a:=(Option.bind_some _ _).symm.trans H;rw[hy185];with_reducible exact a)|(have a:=(Option.bind_some _ _).symm.trans H;with_reducible exact a)|with_reducible exact H|(rw[hy185];exact H)|exact H
 have B:=zM hy185
 clear hy185
 obtain rfl:=zI H
 obtain⟨ah,ai,aj,ak,al,am⟩:=cells3 b.out
 go_wp2_with (first|((with_reducible refine gate_dst (N:=19) rfl ?_);refine Kd.R_lit (Kd.int .i64) _ 2 ?hg (N:=19) ?hd (xs:=([wrap64 (a1+1),a0_1]:List Int)) (inner:=[.int .i64 (wrap64 (a1+1)),.int .i64 a0_1]) (ok:=fun _=>True) (okp:=fun _=>True) ?hr ?hp (fun _ hk=>hk) trivial (Below.refl _ _) (Nat.le_refl _) (by simp) ?_;(case hd=>rfl);(case hg=>rfl);(case hr=>first|(go_simp;done)|(go_simp;rfl));(case hp=>exact(Reps.one (show Kd.M (Kd.int .i64) _ _ _ (wrap64 (a1+1)) [.int .i64 (wrap64 (a1+1))] from rfl) (Reps.one (show Kd.M (Kd.int .i64) _ _ _ a0_1 [.int .i64 a0_1] from rfl) (Reps.none _ _))));intro an ao p hb d g;clear d g;(first|rw[←B.out]at p|(simp only[Int.reduceToNat]at p;rw[←B.out]at p));have S:=zM (Kd.R_lower p (below_size zzR));replace b:=sK b hb;replace HB:=sB HB hb;clear hb p))
 go_ret
 exact⟨_,sq,by exact sE S.out,sb⟩)
 rw[if_neg j]at H
 have c11b0:(a0_0==32)=false:=zN j
 have c11b1:(a0_0 !=32)=true:=zX j
 by_cases l:a0_0=39
 ·(
 rw[if_pos l]at H
 have c15b0:(a0_0==39)=true:=zE l
 have c15b1:(a0_0 !=39)=false:=zY l
 clear l
 obtain⟨y188,hy188⟩:∃c:List Int,c=(([]:List Int)):=⟨_,rfl⟩
 replace H:(some y188)=some r:=by first|(rw[hy188];with_reducible exact H)|(have a:=(Option.bind_some _ _).symm.trans H;rw[hy188];with_reducible exact a)|(have a:=(Option.bind_some _ _).symm.trans H;with_reducible exact a)|with_reducible exact H|(rw[hy188];exact H)|exact H
 have C:=zM hy188
 clear hy188
 obtain rfl:=zI H
 go_wp2_with (first|((with_reducible refine gate_dst (N:=23) rfl ?_);refine Kd.R_lit (Kd.int .i64) _ 2 ?hg (N:=23) ?hd (xs:=([]:List Int)) (inner:=[]) (ok:=fun _=>True) (okp:=fun _=>True) ?hr ?hp (fun _ hk=>hk) trivial (Below.refl _ _) (Nat.le_refl _) (by simp) ?_;(case hd=>rfl);(case hg=>rfl);(case hr=>first|(go_simp;done)|(go_simp;rfl));(case hp=>exact(Reps.none _ _));intro ap aq q hb d g;clear d g;(first|rw[←C.out]at q|(simp only[Int.reduceToNat]at q;rw[←C.out]at q));have T:=zM (Kd.R_lower q (below_size zzR));replace b:=sK b hb;replace HB:=sB HB hb;clear hb q))
 go_ret
 exact⟨_,sq,by exact sE T.out,sb⟩)
 rw[if_neg l]at H
 have c15b0:(a0_0==39)=false:=zN l
 have c15b1:(a0_0 !=39)=true:=zX l
 by_cases m:a0_0=38
 ·(
 rw[if_pos m]at H
 have c18b0:(a0_0==38)=true:=zE m
 have c18b1:(a0_0 !=38)=false:=zY m
 clear m
 obtain⟨y191,hy191⟩:∃c:List Int,c=(([]:List Int)):=⟨_,rfl⟩
 replace H:(some y191)=some r:=by first|(rw[hy191];with_reducible exact H)|(have a:=(Option.bind_some _ _).symm.trans H;rw[hy191];with_reducible exact a)|(have a:=(Option.bind_some _ _).symm.trans H;with_reducible exact a)|with_reducible exact H|(rw[hy191];exact H)|exact H
 have D:=zM hy191
 clear hy191
 obtain rfl:=zI H
 go_wp2_with (first|((with_reducible refine gate_dst (N:=23) rfl ?_);refine Kd.R_lit (Kd.int .i64) _ 2 ?hg (N:=23) ?hd (xs:=([]:List Int)) (inner:=[]) (ok:=fun _=>True) (okp:=fun _=>True) ?hr ?hp (fun _ hk=>hk) trivial (Below.refl _ _) (Nat.le_refl _) (by simp) ?_;(case hd=>rfl);(case hg=>rfl);(case hr=>first|(go_simp;done)|(go_simp;rfl));(case hp=>exact(Reps.none _ _));intro ar au s hb d g;clear d g;(first|rw[←D.out]at s|(simp only[Int.reduceToNat]at s;rw[←D.out]at s));have U:=zM (Kd.R_lower s (below_size zzR));replace b:=sK b hb;replace HB:=sB HB hb;clear hb s))
 go_ret
 exact⟨_,sq,by exact sE U.out,sb⟩)
 rw[if_neg m]at H
 have c18b0:(a0_0==38)=false:=zN m
 have c18b1:(a0_0 !=38)=true:=zX m
 obtain⟨y194,hy194⟩:∃c:List Int,c=(([wrap64 (a1+1)]:List Int)):=⟨_,rfl⟩
 replace H:(some y194)=some r:=by first|(rw[hy194];with_reducible exact H)|(have a:=(Option.bind_some _ _).symm.trans H;rw[hy194];with_reducible exact a)|(have a:=(Option.bind_some _ _).symm.trans H;with_reducible exact a)|with_reducible exact H|(rw[hy194];exact H)|exact H
 have E:=zM hy194
 clear hy194
 obtain rfl:=zI H
 go_wp2_with (first|((with_reducible refine gate_dst (N:=26) rfl ?_);refine Kd.R_lit (Kd.int .i64) _ 2 ?hg (N:=26) ?hd (xs:=([wrap64 (a1+1)]:List Int)) (inner:=[.int .i64 (wrap64 (a1+1))]) (ok:=fun _=>True) (okp:=fun _=>True) ?hr ?hp (fun _ hk=>hk) trivial (Below.refl _ _) (Nat.le_refl _) (by simp) ?_;(case hd=>rfl);(case hg=>rfl);(case hr=>first|(go_simp;done)|(go_simp;rfl));(case hp=>exact(Reps.one (show Kd.M (Kd.int .i64) _ _ _ (wrap64 (a1+1)) [.int .i64 (wrap64 (a1+1))] from rfl) (Reps.none _ _)));intro av aw u hb d g;clear d g;(first|rw[←E.out]at u|(simp only[Int.reduceToNat]at u;rw[←E.out]at u));have V:=zM (Kd.R_lower u (below_size zzR));replace b:=sK b hb;replace HB:=sB HB hb;clear hb u))
 go_ret
 exact⟨_,sq,by exact sE V.out,sb⟩))
end Go.Proofs.Ytcppdkdnpmgpmaa.PFnExactEntryOf
