/- Printed functions: slices_Sort_int64_int64, slices_Compact_int64_int64, impl_Object_refs. -/
import Derived.Test.YtengilknjiobiaaYRoP0
import Derived.Test.YtengilknjiobiaaYRoP10
import Derived.Test.YtengilknjiobiaaYRoP15
namespace Go.Proofs.Ytengilknjiobiaa.PFnExactRefsOf
open Go.RowKit Go.Proofs.YtengilknjiobiaaG Go.Proofs.YtengilknjiobiaaW.PrintWords Go.Proofs.YtengilknjiobiaaW.PrintLast Go.Proofs.YtengilknjiobiaaW.PrintMore
attribute [local go_sem] max2_int min2_int max_two min_two max_three min_three max_four min_four
set_option linter.unusedVariables false
set_option linter.unusedSimpArgs false
def slices_Sort_int64_int64.f (l0:List Int):Option (List Int):=if l0.length<4611686018427387904 then some (l0.mergeSort fun x y=>decide (x≤y))else none
theorem slices_Sort_int64_int64.calls (P0_:Nat→Prop) (u9000_:Value) (l0:List Int) (r:List Int) (w0 w:World) (hB:Below w0.heap.size w0 w) (ho0:Kd.R (Kd.int .i64) 2 w w0.heap.size P0_ u9000_ l0) (h:slices_Sort_int64_int64.f l0=some r):
  Calls Try.prog 95 #[u9000_] w fun e w'=>e= .returned (.tuple #[])∧Kd.R (Kd.int .i64) 2 w' w0.heap.size (fun a=>(P0_ a∨w.heap.size≤a)) u9000_ r∧Below w0.heap.size w0 w'∧Kept w w' (fun a=>P0_ a):=by
 unfold slices_Sort_int64_int64.f at h
 split at h
 ·(
 rename_i h1
 obtain rfl:=zI h
 have hin:=intRow_in ho0
 rcases hin with⟨rfl,rfl⟩|⟨g,cap,cur,rfl,hP,hb,hg,hn,hc,hs,ht⟩
 ·(
 refine(Try.slices_Sort_int_none none 0 w).mono ?_
 rintro e w' ⟨rfl,rfl⟩
 exact⟨rfl,by rw[show(([]:List Int).mergeSort fun x y=>decide (x≤y))=[] by simp];exact Kd.R_nil _ _ _ _ _,hB,Kept.refl _ _⟩)
 ·(
 have hlt:g<w.heap.size:=by(
 rcases Nat.lt_or_ge g w.heap.size with h|h
 ·exact h
 ·rw[Array.getElem?_eq_none h]at hg;cases hg)
 refine(Try.slices_Sort_int g 0 cap l0 w (row_holds hg hn hs ht) hlt h1).mono ?_
 rintro e w' ⟨rfl,n,os,rfl⟩
 have hm:(l0.mergeSort fun x y=>decide (x≤y)).length=l0.length:=List.length_mergeSort _
 have c:=put_row (n:=n) (l0.mergeSort fun x y=>decide (x≤y)) [] os hB hP hb hg (by rw[List.append_nil,hm];exact hn) hc hs
 rw[List.append_nil,hm]at c
 exact⟨rfl,Kd.R_mono c.1 (fun k hk=> .inl hk),c.2.1,c.2.2⟩))
 ·cases h
def slices_Compact_int64_int64.f (l0:List Int):Option (List Int):=if l0.length≤9223372036854775807 then some (Lib.compact l0)else none
theorem slices_Compact_int64_int64.calls (P0_:Nat→Prop) (u9000_:Value) (l0:List Int) (r:List Int) (w0 w:World) (hB:Below w0.heap.size w0 w) (ho0:Kd.R (Kd.int .i64) 2 w w0.heap.size P0_ u9000_ l0) (h:slices_Compact_int64_int64.f l0=some r):
  Calls Try.prog 96 #[u9000_] w fun e w'=>∃d:Value,e= .returned (d)∧Kd.R (Kd.int .i64) 2 w' w0.heap.size (fun a=>(P0_ a∨w.heap.size≤a)) d r∧Below w0.heap.size w0 w'∧Kept w w' (fun a=>P0_ a):=by
 unfold slices_Compact_int64_int64.f at h
 split at h
 ·(
 rename_i h1
 obtain rfl:=zI h
 have hin:=intRow_in ho0
 rcases hin with⟨rfl,rfl⟩|⟨g,cap,cur,rfl,hP,hb,hg,hn,hc,hs,ht⟩
 ·(
 refine(Try.slices_Compact_int_empty none 0 w).mono ?_
 rintro e w' ⟨rfl,rfl⟩
 exact⟨_,rfl,Kd.R_nil _ _ _ _ _,hB,Kept.refl _ _⟩)
 ·(
 refine(Try.slices_Compact_int g 0 cap l0 w (row_holds hg hn hs ht) h1 hn).mono ?_
 rintro e w' ⟨rfl,n,rfl⟩
 have hl:(Lib.compact l0).length≤l0.length:=by(
 unfold Lib.compact Lib.compactUpTo
 rw[List.length_map]
 have i:=List.length_filter_le (Lib.keeps l0.toArray) (List.range l0.length)
 rw[List.length_range]at i
 exact i)
 have hm:(Lib.compact l0++List.replicate (l0.length-(Lib.compact l0).length) 0).length=l0.length:=by rw[List.length_append,List.length_replicate];omega
 have c:=put_row (n:=n) (Lib.compact l0) (List.replicate (l0.length-(Lib.compact l0).length) 0) #[] hB hP hb hg (by rw[hm];exact hn) hc hs
 have hgr:∀W:World,Go.Sort.grow W #[]=W:=fun W=>by unfold Go.Sort.grow;simp
 rw[hgr]at c
 exact⟨_,rfl,Kd.R_mono c.1 (fun k hk=> .inl hk),c.2.1,c.2.2⟩))
 ·cases h
def impl_Object_refs.l0 : Nat → List Int → List (S29) → Int → Int → Option (List Int)
 |0,_,_,_,_=>none
 |k+1,x3,x8,x9,x10=>if x10<x9 then(if 0≤x10 then(if x10<(x8.length:Int)then((impl_refers.f ((rd_T29 x8 x10).f0)).bind fun t425=>(if t425=true then(if x3.length<17592186044416 then(impl_Object_refs.l0 k (x3++[(rd_T29 x8 x10).f3]) x8 x9 (wrap64 (x10+1)))else(none))else(impl_Object_refs.l0 k x3 x8 x9 (wrap64 (x10+1)))))else(none))else(none))else((slices_Sort_int64_int64.f x3).bind fun t429=>((slices_Compact_int64_int64.f t429).bind fun t430=>(some t430)))
def impl_Object_refs.f (k:Nat) (a0_0:Int) (a0_1:Int) (a0_2:ByteArray) (a0_3:Int) (l0_4:List (S29)) (l0_5:List (S29)) (a0_6:Int) (a0_7:Int) (a0_8:ByteArray) (a0_9:Int):Option (List Int):=(impl_Object_values.f k a0_0 a0_1 a0_2 a0_3 l0_4 l0_5 a0_6 a0_7 a0_8 a0_9).bind fun t420=>(impl_Object_refs.l0 k (([]:List Int)) t420 (t420.length:Int) 0)
set_option maxHeartbeats 8000000 in
set_option maxRecDepth 100000 in
theorem impl_Object_refs.calls (k:Nat) (a0_0:Int) (a0_1:Int) (a0_2:ByteArray) (a0_3:Int) (A0_4:Option Addr) (c0_4:Nat) (l0_4:List (S29)) (A0_5:Option Addr) (c0_5:Nat) (l0_5:List (S29)) (a0_6:Int) (a0_7:Int) (a0_8:ByteArray) (a0_9:Int) (r:List Int) (w:World) (hr0_4:Kd.C k29 w A0_4 l0_4.length l0_4) (hc0_4:l0_4.length≤c0_4) (hr0_5:Kd.C k29 w A0_5 l0_5.length l0_5) (hc0_5:l0_5.length≤c0_5) (h:impl_Object_refs.f k a0_0 a0_1 a0_2 a0_3 l0_4 l0_5 a0_6 a0_7 a0_8 a0_9=some r):
  Calls Try.prog 65 #[.agg #[.int .i64 a0_0,.int .i64 a0_1,.string a0_2,.int .i64 a0_3,.slice A0_4 l0_4.length c0_4,.slice A0_5 l0_5.length c0_5,.int .i64 a0_6,.int .i64 a0_7,.string a0_8,.int .i64 a0_9]] w fun e w'=>∃Z:Value,e= .returned (Z)∧Kd.R (Kd.int .i64) 2 w' w.heap.size (fun _=>True) Z r∧Below w.heap.size w w':=by
 have bc:=Try.underlying56
 have bd:=Try.underlying29
 have al:=zM hr0_4
 have am:=zM hc0_4
 clear hr0_4 hc0_4
 have an:=zM hr0_5
 have ao:=zM hc0_5
 clear hr0_5 hc0_5
 have HB:=zM (Below.refl w.heap.size w)
 have H:((impl_Object_values.f k a0_0 a0_1 a0_2 a0_3 l0_4 l0_5 a0_6 a0_7 a0_8 a0_9).bind fun a=>(impl_Object_refs.l0 k (([]:List Int)) a (a.length:Int) 0))=some r:=h
 clear h
 obtain⟨y417,hy417⟩:∃S:List Int,S=(([]:List Int)):=⟨_,rfl⟩
 replace H:((impl_Object_values.f k a0_0 a0_1 a0_2 a0_3 l0_4 l0_5 a0_6 a0_7 a0_8 a0_9).bind fun a=>(impl_Object_refs.l0 k y417 a (a.length:Int) 0))=some r:=by first|(rw[hy417];with_reducible exact H)|(have v:=(Option.bind_some _ _).symm.trans H;rw[hy417];with_reducible exact v)|(have v:=(Option.bind_some _ _).symm.trans H;with_reducible exact v)|with_reducible exact H|(rw[hy417];exact H)|exact H
 have aa:=zM hy417
 clear hy417
 obtain⟨a,A2,H⟩:=sO H
 have H':=zM H
 clear H
 go_enter Try.func65,Try.ntmps65
 go_wp2_with (first|((with_reducible refine gate_dst (N:=1) rfl ?_);refine sV (N:=1) (cs:= #[.int .i64 a0_0,.int .i64 a0_1,.string a0_2,.int .i64 a0_3,.slice A0_4 l0_4.length c0_4,.slice A0_5 l0_5.length c0_5,.int .i64 a0_6,.int .i64 a0_7,.string a0_8,.int .i64 a0_9]) (t:=56) ?_;intro ab hg w3 hbox hb;have c:=zM (hbox);have be:=sG HB hg;have u:=sG HB hg;replace HB:=sB HB hb;clear hb hbox hg)|((with_reducible refine gate_dst (N:=6) rfl ?_);refine Kd.R_lit (Kd.int .i64) _ 2 ?hg (N:=6) ?hd (xs:=([]:List Int)) (inner:=[]) (ok:=fun _=>True) (okp:=fun _=>True) ?hr ?hp (fun _ hk=>hk) trivial (Below.refl _ _) (Nat.le_refl _) (by simp) ?_;(case hd=>rfl);(case hg=>rfl);(case hr=>first|(go_simp;done)|(go_simp;rfl));(case hp=>exact(Reps.none _ _));intro bf w4 I hb ap aq;clear ap aq;(first|rw[←aa.out]at I|(simp only[Int.reduceToNat]at I;rw[←aa.out]at I));have T:=zM (Kd.R_lower I (below_size zzR));replace c:=sK c hb;replace HB:=sB HB hb;clear hb I;obtain⟨ar,au,av,aw,ax,ay,az,aA,aC,aD,aE,aG,aH,aI,aJ,aK,aM,aN,aQ,aR⟩:=cells10 c.out)|((with_reducible refine gate_callee (f:=94) rfl ?_);refine sC (some 8) Try.func94 #[.agg #[.int .i64 a0_0,.int .i64 a0_1,.string a0_2,.int .i64 a0_3,.slice A0_4 l0_4.length c0_4,.slice A0_5 l0_5.length c0_5,.int .i64 a0_6,.int .i64 a0_7,.string a0_8,.int .i64 a0_9]] (impl_Object_values.calls k a0_0 a0_1 a0_2 a0_3 (fun i=>i<w.heap.size) _ _ l0_4 (fun i=>i<w.heap.size) _ _ l0_5 a0_6 a0_7 a0_8 a0_9 a _ ?side1 ?side2 A2.out) ?_;(case side1=>exact Kd.V_mk am.out (Kd.F_below (Kd.C_F k29_heap al.out) zzR));(case side2=>exact Kd.V_mk ao.out (Kd.F_below (Kd.C_F k29_heap an.out) zzR));rintro e w7 ⟨bg,rfl,J,hb⟩;refine⟨_,rfl,?_⟩;replace T:=zM (Kd.R_below (sE T.out) hb);have ac:=zM (Kd.R_lower (Kd.R_mono (ok':=fun i=>True) J (fun _ z=>trivial)) (below_size zzR));replace c:=sK c hb;replace HB:=sB HB hb;(try clear hb);(try clear hk);(try clear J);obtain⟨aT,aU,aV⟩:=Kd.R_slice ac.out;subst aV))
 go_loopg [3,10] k (fun kq v3 aW w'=>∃(m:List Int) (d:Int),aW= .int .i64 d∧Aside0 (impl_Object_refs.l0 kq m a (a.length:Int) d=some r)∧Aside0 (kq≤k)∧Aside0 (Kd.R (Kd.int .i64) 2 w' w.heap.size (fun _=>True) v3 m)∧Aside0 (Kd.R k29 29 w' w.heap.size (fun _=>True) (.slice aT a.length aU) a)∧Aside0 (w'.heap[ab]?=some (.cells #[.int .i64 a0_0,.int .i64 a0_1,.string a0_2,.int .i64 a0_3,(.slice A0_4 l0_4.length c0_4),(.slice A0_5 l0_5.length c0_5),.int .i64 a0_6,.int .i64 a0_7,.string a0_8,.int .i64 a0_9] 56 (0,0)))∧Aside0 (Below w.heap.size w w'))
 case atStart=>exact⟨(y417),(0),sr,H',⟨Nat.le_refl _⟩,⟨by exact sE T.out⟩,⟨by exact sE ac.out⟩,⟨by exact sT c.out⟩,⟨sb⟩⟩
 case round=>(
 clear H'
 try clear ar
 try clear au
 try clear av
 try clear aw
 try clear ax
 try clear ay
 try clear az
 try clear aA
 try clear aC
 try clear aD
 try clear aE
 try clear aG
 try clear aH
 try clear aI
 try clear aJ
 try clear aK
 try clear aM
 try clear aN
 try clear aQ
 try clear aR
 obtain⟨m,d,rfl,HA,L,j,l,c,HB⟩:=hrel
 cases gk with
 |zero=>exact absurd HA.out (by simp[impl_Object_refs.l0])
 |succ k1=>(
 have H:=HA.out
 clear HA
 simp only[impl_Object_refs.l0]at H
 by_cases E:d<(a.length:Int)
 ·(
 rw[if_pos E]at H
 have c9b0:=zT E
 clear E
 by_cases M:0≤d
 ·(
 rw[if_pos M]at H
 have c10b0:=zT M
 clear M
 by_cases O:d<(a.length:Int)
 ·(
 rw[if_pos O]at H
 have c11b0:=zT O
 clear O
 obtain⟨aX,ad,H⟩:=sO H
 by_cases P:aX=true
 ·(
 subst P
 rewrite[if_pos rfl]at H
 by_cases Q:m.length<17592186044416
 ·(
 rw[if_pos Q]at H
 have aY:=zM Q
 clear Q
 obtain⟨y426,hy426⟩:∃S:List Int,S=(m++[(rd_T29 a d).f3]):=⟨_,rfl⟩
 replace H:(impl_Object_refs.l0 k1 y426 a (a.length:Int) (wrap64 (d+1)))=some r:=by first|(rw[hy426];with_reducible exact H)|(have v:=(Option.bind_some _ _).symm.trans H;rw[hy426];with_reducible exact v)|(have v:=(Option.bind_some _ _).symm.trans H;with_reducible exact v)|with_reducible exact H|(rw[hy426];exact H)|exact H
 have aZ:=zM hy426
 clear hy426
 have H':=zM H
 clear H
 have A:0≤(d:Int):=zzA
 have B:d<(a.length:Int):=zzA
 obtain⟨a0,U,a1,a2,a3,a4⟩:=at_T29 (Kd.R_reads' l.out).2.2 d A B
 cases U
 replace A:=eq_true A
 replace B:=eq_true B
 go_wp2_with (first|((with_reducible refine gate_dst (N:=5) rfl ?_);refine sV (N:=5) (cs:= #[.int .i64 0,.int .i64 0,.string (⟨#[]⟩:ByteArray),.int .i64 0]) (t:=29) ?_;intro p hg bh hbox hb;replace j:=zM (Kd.R_below (sE j.out) hb);replace l:=zM (Kd.R_below (Kd.R_elderB (sE l.out) p (Nat.le_of_eq hg.symm)) hb);have s:=zM (hbox);have a5:=sG HB hg;have V:=sG HB hg;replace HB:=sB HB hb;have q:=sN c hg;have X:=sM c hg;replace c:=sK c hb;clear hb hbox hg;have bi:=X.out;have bj:=q.out;obtain⟨bk,bl,bm,bn,bo,bp,bq,br⟩:=cells4 s.out)|((with_reducible refine gate_callee (f:=57) rfl ?_);refine sC (some 16) Try.func57 #[.int .i64 ((rd_T29 a d).f0)] (impl_refers.calls ((rd_T29 a d).f0) true _ ad.out) ?_;rintro e w' ⟨rfl,⟨nd,rfl⟩⟩;refine⟨_,rfl,?_⟩)|((with_reducible refine gate_builtin (b:= .append) (xs:= #[.tmp 17,.tmp 20]) rfl ?_);at_builtin;refine Kd.R_append (Kd.int .i64) (w0:=w) w.heap.size rfl (.tmp 17) (.tmp 20) 53 2 (.int .i64 0) 8 rfl Try.underlying53 info2 rfl (by decide) (by omega) u3 m ((rd_T29 a d).f3) [.int .i64 ((rd_T29 a d).f3)] (fun _=>True) (fun _=>False) rfl (by first|(go_simp;done)|(go_simp;rfl)) ?aP (fun _ hk=>hk.elim) ?aF ?aO ?aB ?aS ?aL ?_;(case aP=>exact rfl);(case aB=>exact zzR);(case aF=>exact(fun _ _=>trivial));(case aO=>exact(by(with_reducible repeat(first|apply Kd.R_alloc|apply Kd.R_drewN|apply Kd.R_drew));exact Kd.R_mono (sRF4 (g:=p) (Kd.R_types j.out s.out (by decide)) (fun _ hk=>hk.2)) (fun _ hk=>trivial)));(case aS=>exact(below_size zzR));(case aL=>have:=aY.out;omega);intro bs bt ho hb hg hat;rw[←aZ.out]at ho;have ae:=zM (Kd.R_over' (by(with_reducible repeat(first|apply Kd.R_alloc|apply Kd.R_drewN|apply Kd.R_drew));exact(Kd.R_mono (sRF4 (g:=p) (Kd.R_mono l.out (fun i hk=>(⟨hk,hk.2⟩:_∧i≠p))) (fun _ hk=>hk.2)) (fun _ Y=>Y.1))) (Kd.R_typed (by(with_reducible repeat(first|apply Kd.R_alloc|apply Kd.R_drewN|apply Kd.R_drew));exact(Kd.R_mono (sRF4 (g:=p) (Kd.R_types j.out s.out (by decide)) (fun _ hk=>hk.2)) (fun _ Y=>Y.1)))) (by decide) hg);have af:=zM (blk_grown (g:=ab) (o:= .cells #[.int .i64 a0_0,.int .i64 a0_1,.string a0_2,.int .i64 a0_3,.slice A0_4 l0_4.length c0_4,.slice A0_5 l0_5.length c0_5,.int .i64 a0_6,.int .i64 a0_7,.string a0_8,.int .i64 a0_9] 56 (0,0)) (by(with_reducible repeat(first|refine blk_drewN ?_ _|refine blk_drew ?_|refine blk_alloc ?_ _));refine blk_far ?_ q.out _;(with_reducible repeat(first|refine blk_drewN ?_ _|refine blk_drew ?_|refine blk_alloc ?_ _));refine blk_far ?_ q.out _;(with_reducible repeat(first|refine blk_drewN ?_ _|refine blk_drew ?_|refine blk_alloc ?_ _));refine blk_far ?_ q.out _;(with_reducible repeat(first|refine blk_drewN ?_ _|refine blk_drew ?_|refine blk_alloc ?_ _));refine blk_far ?_ q.out _;exact sT c.out) hg (Kd.R_ne j.out c.out (by decide)));have ag:=zM (blk_grown (g:=p) (o:= .cells #[.int .i64 ((rd_T29 a d).f0),.int .i64 ((rd_T29 a d).f1),.string ((rd_T29 a d).f2),.int .i64 ((rd_T29 a d).f3)] 29 (0,0)) (by exact sP4 (sT s.out)) hg (Kd.R_ne j.out s.out (by decide)));have ah:=zM (hb);have ai:=zM (ho);clear l;clear c;clear s;clear HB;clear j;have l:=ae;have c:=af;have s:=ag;have HB:=ah;have a6:=ai;clear ae af ag ah ai;clear ho hb hg hat))
 go_roundg k1
 case measure=>have:=L.out;omega
 case rel=>exact⟨(y426),(wrap64 (d+1)),sr,H',⟨by have:=L.out;omega⟩,⟨by exact sE a6.out⟩,⟨by(with_reducible repeat(first|apply Kd.R_alloc|apply Kd.R_drewN|apply Kd.R_drew));exact Kd.R_mono l.out (fun _ hk=>trivial)⟩,⟨by exact sT c.out⟩,⟨sb⟩⟩)
 rw[if_neg Q]at H
 exact absurd H (by simp))
 replace P:=zB P
 subst P
 rewrite[if_neg zQ]at H
 have H':=zM H
 clear H
 have A:0≤(d:Int):=zzA
 have B:d<(a.length:Int):=zzA
 obtain⟨a0,U,a1,a2,a3,a4⟩:=at_T29 (Kd.R_reads' l.out).2.2 d A B
 cases U
 replace A:=eq_true A
 replace B:=eq_true B
 go_wp2_with (first|((with_reducible refine gate_dst (N:=5) rfl ?_);refine sV (N:=5) (cs:= #[.int .i64 0,.int .i64 0,.string (⟨#[]⟩:ByteArray),.int .i64 0]) (t:=29) ?_;intro p hg bu hbox hb;replace j:=zM (Kd.R_below (sE j.out) hb);replace l:=zM (Kd.R_below (Kd.R_elderB (sE l.out) p (Nat.le_of_eq hg.symm)) hb);have s:=zM (hbox);have a5:=sG HB hg;have V:=sG HB hg;replace HB:=sB HB hb;have q:=sN c hg;have X:=sM c hg;replace c:=sK c hb;clear hb hbox hg;have bv:=X.out;have bw:=q.out;obtain⟨bx,bz,bA,bB,bC,bD,bE,bF⟩:=cells4 s.out)|((with_reducible refine gate_callee (f:=57) rfl ?_);refine sC (some 16) Try.func57 #[.int .i64 ((rd_T29 a d).f0)] (impl_refers.calls ((rd_T29 a d).f0) false _ ad.out) ?_;rintro e w' ⟨rfl,⟨nd,rfl⟩⟩;refine⟨_,rfl,?_⟩))
 go_roundg k1
 case measure=>have:=L.out;omega
 case rel=>exact⟨(m),(wrap64 (d+1)),sr,H',⟨by have:=L.out;omega⟩,⟨by(with_reducible repeat(first|apply Kd.R_alloc|apply Kd.R_drewN|apply Kd.R_drew));exact Kd.R_mono (sRF4 (g:=p) (Kd.R_types j.out s.out (by decide)) (fun _ hk=>hk.2)) (fun _ hk=>trivial)⟩,⟨by(with_reducible repeat(first|apply Kd.R_alloc|apply Kd.R_drewN|apply Kd.R_drew));exact Kd.R_mono (sRF4 (g:=p) (Kd.R_mono l.out (fun i hk=>(⟨hk,hk.2⟩:_∧i≠p))) (fun _ hk=>hk.2)) (fun _ hk=>trivial)⟩,⟨by(with_reducible repeat(first|refine blk_drewN ?_ _|refine blk_drew ?_|refine blk_alloc ?_ _));refine blk_far ?_ q.out _;(with_reducible repeat(first|refine blk_drewN ?_ _|refine blk_drew ?_|refine blk_alloc ?_ _));refine blk_far ?_ q.out _;(with_reducible repeat(first|refine blk_drewN ?_ _|refine blk_drew ?_|refine blk_alloc ?_ _));refine blk_far ?_ q.out _;(with_reducible repeat(first|refine blk_drewN ?_ _|refine blk_drew ?_|refine blk_alloc ?_ _));refine blk_far ?_ q.out _;exact sT c.out⟩,⟨sb⟩⟩)
 rw[if_neg O]at H
 exact absurd H (by simp))
 rw[if_neg M]at H
 exact absurd H (by simp))
 rw[if_neg E]at H
 have c9b0:=zF E
 clear E
 obtain⟨aj,a7,H⟩:=sO H
 obtain⟨a8,a9,H⟩:=sO H
 obtain rfl:=zI H
 obtain⟨F,G,ba⟩:=Kd.R_slice j.out
 subst ba
 go_wp2_with (first|((with_reducible refine gate_callee (f:=95) rfl ?_);refine sC (some 24) Try.func95 #[.slice F m.length G] (slices_Sort_int64_int64.calls (fun i=>some i=(.slice F m.length G:Value).ownBlock) (.slice F m.length G) m aj w _ ?side1 ?side2 a7.out) ?_;(case side1=>repeat(first|(with_reducible first|exact HB.out|apply below_alloc|apply pw_below_drewN|apply below_drew1|refine below_set ?_ u.out)|exact HB.out));(case side2=>exact Kd.R_tight rfl j.out);rintro e bG ⟨rfl,ak,hb,hkp⟩;refine⟨_,rfl,?_⟩;replace l:=zM (Kd.R_mono (ok':=fun i=>True) (Kd.R_keptB ((Kd.R_apart' l.out (Kd.R_typed j.out) (by decide))) hkp (fun i z D=>(z.2) D)) (fun i z=>trivial));replace c:=zM (blk_kept (sT c.out) hkp (fun D=>(fun K=>(Kd.R_ne j.out c.out (by decide)) K) D));replace j:=zM (Kd.R_reok rfl ak (fun i K=>j.out.1 i K));replace HB:=zM (hb);(try clear hb);(try clear hkp);(try clear ak))|((with_reducible refine gate_callee (f:=96) rfl ?_);refine sC (some 26) Try.func96 #[.slice F m.length G] (slices_Compact_int64_int64.calls (fun i=>some i=(.slice F m.length G:Value).ownBlock) (.slice F m.length G) aj a8 w _ ?side1 ?side2 a9.out) ?_;(case side1=>repeat(first|(with_reducible first|exact HB.out|apply below_alloc|apply pw_below_drewN|apply below_drew1|refine below_set ?_ u.out)|exact HB.out));(case side2=>exact Kd.R_tight rfl j.out);rintro e bH ⟨bI,rfl,J,hb,hkp⟩;refine⟨_,rfl,?_⟩;replace l:=zM (Kd.R_mono (ok':=fun i=>True) (Kd.R_keptB ((Kd.R_apart' l.out (Kd.R_typed j.out) (by decide))) hkp (fun i z D=>(z.2) D)) (fun i z=>trivial));replace c:=zM (blk_kept (sT c.out) hkp (fun D=>(fun K=>(Kd.R_ne j.out c.out (by decide)) K) D));have bb:=zM (Kd.R_mono (ok':=fun i=>True) J (fun i z=>trivial));replace HB:=zM (hb);clear j;(try clear hb);(try clear hkp);(try clear J)))
 go_ret
 exact⟨_,sq,by exact sE bb.out,sb⟩))
end Go.Proofs.Ytengilknjiobiaa.PFnExactRefsOf
