/- Printed functions: spec_l00Has, spec_l08Visit. -/
import Derived.Test.YtpdljgieaaicpaaYGbP0
import Derived.Test.YtpdljgieaaicpaaYGbP4
namespace Go.Proofs.Ytpdljgieaaicpaa.PFnExactGarbage
open Go.RowKit Go.Proofs.YtpdljgieaaicpaaG Go.Proofs.YtpdljgieaaicpaaW.PrintWords Go.Proofs.YtpdljgieaaicpaaW.PrintLast Go.Proofs.YtpdljgieaaicpaaW.PrintMore
attribute [local go_sem] max2_int min2_int max_two min_two max_three min_three max_four min_four
set_option linter.unusedVariables false
set_option linter.unusedSimpArgs false
def spec_l00Has.l0 : Nat → List Int → Int → Int → Option (Bool)
 |0,_,_,_=>none
 |k+1,x0,x1,x5=>if x5<(x0.length:Int)then(if 0≤x5 then(if(rd x0 x5)=x1 then(some true)else(spec_l00Has.l0 k x0 x1 (wrap64 (x5+1))))else(none))else(some false)
def spec_l00Has.f (k:Nat) (l0:List Int) (a1:Int):Option (Bool):=spec_l00Has.l0 k l0 a1 0
set_option maxHeartbeats 8000000 in
set_option maxRecDepth 100000 in
theorem spec_l00Has.calls (k:Nat) (A0:Option Addr) (c0:Nat) (l0:List Int) (a1:Int) (r:Bool) (w:World) (hr0:Kd.C (Kd.int .i64) w A0 l0.length l0) (hc0:l0.length≤c0) (h:spec_l00Has.f k l0 a1=some r):
  Calls Try.prog 40 #[.slice A0 l0.length c0,.int .i64 a1] w fun e w'=>e= .returned (.bool r)∧Drawn0 w w':=by
 have m:=zM hr0
 have s:=zM hc0
 clear hr0 hc0
 have H:(spec_l00Has.l0 k l0 a1 0)=some r:=h
 clear h
 have H':=zM H
 clear H
 go_enter Try.func40,Try.ntmps40
 go_wp2
 go_loopg [5] k (fun kq o w'=>∃(a:Int),o= .int .i64 a∧Aside0 (spec_l00Has.l0 kq l0 a1 a=some r)∧Aside0 (kq≤k)∧Drawn0 w w')
 case atStart=>exact⟨(0),sr,H',⟨Nat.le_refl _⟩,by repeat(first|exact Drawn0.refl _|apply Drawn0.step)⟩
 case round=>(
 clear H'
 obtain⟨a,rfl,HA,n,⟨t,rfl⟩⟩:=hrel
 cases gk with
 |zero=>exact absurd HA.out (by simp[spec_l00Has.l0])
 |succ k1=>(
 have H:=HA.out
 clear HA
 simp only[spec_l00Has.l0]at H
 by_cases i:a<(l0.length:Int)
 ·(
 rw[if_pos i]at H
 have c3b0:=zT i
 clear i
 by_cases j:0≤a
 ·(
 rw[if_pos j]at H
 have c4b0:=zT j
 clear j
 by_cases c:(rd l0 a)=a1
 ·(
 rw[if_pos c]at H
 have c5b0:((rd l0 a)==a1)=true:=zE c
 have c5b1:((rd l0 a) !=a1)=false:=zY c
 clear c
 obtain rfl:=zI H
 have d:0≤(a:Int):=zzA
 have g:a<(l0.length:Int):=zzA
 obtain⟨p,l,q⟩:=Kd.at_int m.out a d g
 cases l
 replace d:=eq_true d
 replace g:=eq_true g
 go_wp2
 go_ret
 exact⟨by first|rfl|(simp;done)|(simp[*];done),by repeat(first|exact Drawn0.refl _|apply Drawn0.step)⟩)
 rw[if_neg c]at H
 have c5b0:((rd l0 a)==a1)=false:=zN c
 have c5b1:((rd l0 a) !=a1)=true:=zX c
 have H':=zM H
 clear H
 have d:0≤(a:Int):=zzA
 have g:a<(l0.length:Int):=zzA
 obtain⟨p,l,q⟩:=Kd.at_int m.out a d g
 cases l
 replace d:=eq_true d
 replace g:=eq_true g
 go_wp2
 go_roundg k1
 case measure=>have:=n.out;omega
 case rel=>exact⟨(wrap64 (a+1)),sr,H',⟨by have:=n.out;omega⟩,by repeat(first|exact Drawn0.refl _|apply Drawn0.step)⟩)
 rw[if_neg j]at H
 exact absurd H (by simp))
 rw[if_neg i]at H
 have c3b0:=zF i
 clear i
 obtain rfl:=zI H
 go_wp2
 go_ret
 exact⟨by first|rfl|(simp;done)|(simp[*];done),by repeat(first|exact Drawn0.refl _|apply Drawn0.step)⟩))
def spec_l08Visit.l0 : Nat → List Int → List (S62) → Int → Option (List Int)
 |0,_,_,_=>none
 |k+1,x0,x1,x5=>if x5<(x1.length:Int)then(if 0≤x5 then((spec_l07IsRef.f ((rd_T62 x1 x5).f0) ((rd_T62 x1 x5).f1) ((rd_T62 x1 x5).f2) ((rd_T62 x1 x5).f3)).bind fun t238=>(if t238=true then((spec_l00Has.f k x0 ((rd_T62 x1 x5).f3)).bind fun t240=>(if t240=true then(spec_l08Visit.l0 k x0 x1 (wrap64 (x5+1)))else(if x0.length<17592186044416 then(spec_l08Visit.l0 k (x0++[(rd_T62 x1 x5).f3]) x1 (wrap64 (x5+1)))else(none))))else(spec_l08Visit.l0 k x0 x1 (wrap64 (x5+1)))))else(none))else(some x0)
def spec_l08Visit.f (k:Nat) (l0:List Int) (l1:List (S62)):Option (List Int):=spec_l08Visit.l0 k l0 l1 0
set_option maxHeartbeats 8000000 in
set_option maxRecDepth 100000 in
theorem spec_l08Visit.calls (k:Nat) (P0_:Nat→Prop) (u9000_:Value) (l0:List Int) (A1:Option Addr) (c1:Nat) (l1:List (S62)) (r:List Int) (w0 w:World) (hB:Below w0.heap.size w0 w) (ho0:Kd.R (Kd.int .i64) 2 w w0.heap.size P0_ u9000_ l0) (hr1:∀E,Kept w E (fun c=>P0_ c)→Kd.C k62 E A1 l1.length l1) (hc1:l1.length≤c1) (h:spec_l08Visit.f k l0 l1=some r):
  Calls Try.prog 66 #[u9000_,.slice A1 l1.length c1] w fun e w'=>∃F:Value,e= .returned (F)∧Kd.R (Kd.int .i64) 2 w' w0.heap.size (fun c=>(P0_ c∨w.heap.size≤c)) F r∧Below w0.heap.size w0 w'∧Kept w w' (fun c=>P0_ c):=by
 have ag:=Try.underlying62
 have M:=zM (show Kd.R (Kd.int .i64) 2 w w0.heap.size (fun c=>(P0_ c∨w.heap.size≤c)) u9000_ l0 from Kd.R_mono ho0 (fun c hk=>(.inl hk)))
 have n:=zM hr1
 have ah:=zM hc1
 clear hr1 hc1
 have HK:=zM (Kept.refl w (fun c=>P0_ c))
 have ai:=zM hB.size
 have HB:=zM hB
 clear hB
 have H:(spec_l08Visit.l0 k l0 l1 0)=some r:=h
 clear h
 have H':=zM H
 clear H
 go_enter Try.func66,Try.ntmps66
 go_wp2
 go_loopg [0,5] k (fun kq N O w'=>∃(g:List Int) (a:Int),O= .int .i64 a∧Aside0 (spec_l08Visit.l0 kq g l1 a=some r)∧Aside0 (kq≤k)∧Aside0 (Kd.R (Kd.int .i64) 2 w' w0.heap.size (fun c=>(P0_ c∨w.heap.size≤c)) N g)∧Aside0 (Kept w w' (fun c=>P0_ c))∧Aside0 (Below w0.heap.size w0 w'))
 case atStart=>exact⟨(l0),(0),sr,H',⟨Nat.le_refl _⟩,⟨by exact sE M.out⟩,⟨by repeat(first|(with_reducible first|exact HK.out|apply Kept.alloc|apply Kept.drewN|apply Kept.drew)|exact HK.out)⟩,⟨sb⟩⟩
 case round=>(
 clear H'
 try clear c1
 obtain⟨g,a,rfl,HA,o,d,HK,HB⟩:=hrel
 cases gk with
 |zero=>exact absurd HA.out (by simp[spec_l08Visit.l0])
 |succ k1=>(
 have H:=HA.out
 clear HA
 simp only[spec_l08Visit.l0]at H
 by_cases p:a<(l1.length:Int)
 ·(
 rw[if_pos p]at H
 have c3b0:=zT p
 clear p
 by_cases t:0≤a
 ·(
 rw[if_pos t]at H
 have c4b0:=zT t
 clear t
 obtain⟨P,y,H⟩:=sO H
 by_cases u:P=true
 ·(
 subst u
 rewrite[if_pos rfl]at H
 obtain⟨Q,G,H⟩:=sO H
 by_cases v:Q=true
 ·(
 subst v
 rewrite[if_pos rfl]at H
 have H':=zM H
 clear H
 have i:0≤(a:Int):=zzA
 have j:a<(l1.length:Int):=zzA
 obtain⟨q,s,I,J,K,L⟩:=at_T62 (Kd.C_kept_now n.out HK.out) a i j
 cases s
 replace i:=eq_true i
 replace j:=eq_true j
 go_wp2_with (first|((with_reducible refine gate_callee (f:=93) rfl ?_);refine sC (some 16) Try.func93 #[.agg #[.int .i64 ((rd_T62 l1 a).f0),.int .i64 ((rd_T62 l1 a).f1),.string ((rd_T62 l1 a).f2),.int .i64 ((rd_T62 l1 a).f3)]] (spec_l07IsRef.calls ((rd_T62 l1 a).f0) ((rd_T62 l1 a).f1) ((rd_T62 l1 a).f2) ((rd_T62 l1 a).f3) true _ y.out) ?_;rintro e w9 ⟨rfl,hb⟩;refine⟨_,rfl,?_⟩;replace d:=zM (Kd.R_below (sE d.out) hb);replace HK:=zM (Kept.below (S:=(fun c=>P0_ c)) (by repeat(first|(with_reducible first|exact HK.out|apply Kept.alloc|apply Kept.drewN|apply Kept.drew)|exact HK.out)) hb);replace HB:=sB HB hb;(try clear hb);have l:0≤(a:Int):=zzA;have m:a<(l1.length:Int):=zzA;obtain⟨ad239,z,T,U,V,W⟩:=at_T62 (Kd.C_kept_now n.out HK.out) a l m;obtain rfl:q=ad239:=(by injection z);replace l:=eq_true l;replace m:=eq_true m;obtain⟨aj,ak,X⟩:=Kd.R_slice d.out;subst X)|(go_at_call 40;(with_reducible refine(spec_l00Has.calls k1 _ _ g ((rd_T62 l1 a).f3) true _ ?side1 ?side2 G.out).mono ?_);(case side1=>exact sD ((Kd.R_reads' d.out).2.2));(case side2=>exact(Kd.R_reads' d.out).2.1);rintro e w' ⟨rfl,⟨nd,rfl⟩⟩))
 go_roundg k1
 case measure=>have:=o.out;omega
 case rel=>exact⟨(g),(wrap64 (a+1)),sr,H',⟨by have:=o.out;omega⟩,⟨by exact sE d.out⟩,⟨by repeat(first|(with_reducible first|exact HK.out|apply Kept.alloc|apply Kept.drewN|apply Kept.drew)|exact HK.out)⟩,⟨sb⟩⟩)
 replace v:=zB v
 subst v
 rewrite[if_neg zQ]at H
 by_cases x:g.length<17592186044416
 ·(
 rw[if_pos x]at H
 have Y:=zM x
 clear x
 obtain⟨y242,hy242⟩:∃Z:List Int,Z=(g++[(rd_T62 l1 a).f3]):=⟨_,rfl⟩
 replace H:(spec_l08Visit.l0 k1 y242 l1 (wrap64 (a+1)))=some r:=by first|(rw[hy242];with_reducible exact H)|(have A:=(Option.bind_some _ _).symm.trans H;rw[hy242];with_reducible exact A)|(have A:=(Option.bind_some _ _).symm.trans H;with_reducible exact A)|with_reducible exact H|(rw[hy242];exact H)|exact H
 have aa:=zM hy242
 clear hy242
 have H':=zM H
 clear H
 have i:0≤(a:Int):=zzA
 have j:a<(l1.length:Int):=zzA
 obtain⟨q,s,I,J,K,L⟩:=at_T62 (Kd.C_kept_now n.out HK.out) a i j
 cases s
 replace i:=eq_true i
 replace j:=eq_true j
 go_wp2_with (first|((with_reducible refine gate_callee (f:=93) rfl ?_);refine sC (some 16) Try.func93 #[.agg #[.int .i64 ((rd_T62 l1 a).f0),.int .i64 ((rd_T62 l1 a).f1),.string ((rd_T62 l1 a).f2),.int .i64 ((rd_T62 l1 a).f3)]] (spec_l07IsRef.calls ((rd_T62 l1 a).f0) ((rd_T62 l1 a).f1) ((rd_T62 l1 a).f2) ((rd_T62 l1 a).f3) true _ y.out) ?_;rintro e al ⟨rfl,hb⟩;refine⟨_,rfl,?_⟩;replace d:=zM (Kd.R_below (sE d.out) hb);replace HK:=zM (Kept.below (S:=(fun c=>P0_ c)) (by repeat(first|(with_reducible first|exact HK.out|apply Kept.alloc|apply Kept.drewN|apply Kept.drew)|exact HK.out)) hb);replace HB:=sB HB hb;(try clear hb);have l:0≤(a:Int):=zzA;have m:a<(l1.length:Int):=zzA;obtain⟨ad239,z,T,U,V,W⟩:=at_T62 (Kd.C_kept_now n.out HK.out) a l m;obtain rfl:q=ad239:=(by injection z);replace l:=eq_true l;replace m:=eq_true m;obtain⟨ab,ac,ad⟩:=Kd.R_slice d.out;subst ad)|(go_at_call 40;(with_reducible refine(spec_l00Has.calls k1 _ _ g ((rd_T62 l1 a).f3) false _ ?side1 ?side2 G.out).mono ?_);(case side1=>exact sD ((Kd.R_reads' d.out).2.2));(case side2=>exact(Kd.R_reads' d.out).2.1);rintro e w' ⟨rfl,⟨nd,rfl⟩⟩;have B:0≤(a:Int):=zzA;have D:a<(l1.length:Int):=zzA;obtain⟨ad241,ae,am,an,ao,ap⟩:=at_T62 (Kd.C_kept_now n.out HK.out) a B D;obtain rfl:q=ad241:=(by injection ae);replace B:=eq_true B;replace D:=eq_true D)|((with_reducible refine gate_builtin (b:= .append) (xs:= #[.tmp 27,.tmp 33]) rfl ?_);at_builtin;refine Kd.R_append (Kd.int .i64) (w0:=w0) w0.heap.size rfl (.tmp 27) (.tmp 33) 28 2 (.int .i64 0) 8 rfl Try.underlying28 info2 rfl (by decide) (by omega) (.slice ab g.length ac) g ((rd_T62 l1 a).f3) [.int .i64 ((rd_T62 l1 a).f3)] (fun c=>(P0_ c∨w.heap.size≤c)) (fun _=>False) rfl rfl ?aP (fun _ hk=>hk.elim) ?aF ?aO ?aB ?aS ?aL ?_;(case aP=>exact rfl);(case aB=>exact(sH HB.out));(case aF=>exact(fun c hk=>(.inr (Nat.le_trans (by first|exact HK.out.1|exact(show Kept w _ (fun c=>P0_ c) from by repeat(first|(with_reducible first|exact HK.out|apply Kept.alloc|apply Kept.drewN|apply Kept.drew)|exact HK.out)).1) hk))));(case aO=>exact(sE d.out));(case aS=>exact(below_size (sH HB.out)));(case aL=>have:=Y.out;omega);intro aq ar ho hb hg hat;rw[←aa.out]at ho;replace HB:=zM (hb);replace HK:=zM (Kept.of_grown (S:=(fun c=>P0_ c)) hg (by repeat(first|(with_reducible first|exact HK.out|apply Kept.alloc|apply Kept.drewN|apply Kept.drew)|exact HK.out)) (fun c e_=>(d.out.1 c e_)));have af:=zM (ho);clear d;clear ho hb hg hat))
 go_roundg k1
 case measure=>have:=o.out;omega
 case rel=>exact⟨(y242),(wrap64 (a+1)),sr,H',⟨by have:=o.out;omega⟩,⟨by exact sE af.out⟩,⟨by repeat(first|(with_reducible first|exact HK.out|apply Kept.alloc|apply Kept.drewN|apply Kept.drew)|exact HK.out)⟩,⟨sb⟩⟩)
 rw[if_neg x]at H
 exact absurd H (by simp))
 replace u:=zB u
 subst u
 rewrite[if_neg zQ]at H
 have H':=zM H
 clear H
 have i:0≤(a:Int):=zzA
 have j:a<(l1.length:Int):=zzA
 obtain⟨q,s,I,J,K,L⟩:=at_T62 (Kd.C_kept_now n.out HK.out) a i j
 cases s
 replace i:=eq_true i
 replace j:=eq_true j
 go_wp2_with (first|((with_reducible refine gate_callee (f:=93) rfl ?_);refine sC (some 16) Try.func93 #[.agg #[.int .i64 ((rd_T62 l1 a).f0),.int .i64 ((rd_T62 l1 a).f1),.string ((rd_T62 l1 a).f2),.int .i64 ((rd_T62 l1 a).f3)]] (spec_l07IsRef.calls ((rd_T62 l1 a).f0) ((rd_T62 l1 a).f1) ((rd_T62 l1 a).f2) ((rd_T62 l1 a).f3) false _ y.out) ?_;rintro e au ⟨rfl,hb⟩;refine⟨_,rfl,?_⟩;replace d:=zM (Kd.R_below (sE d.out) hb);replace HK:=zM (Kept.below (S:=(fun c=>P0_ c)) (by repeat(first|(with_reducible first|exact HK.out|apply Kept.alloc|apply Kept.drewN|apply Kept.drew)|exact HK.out)) hb);replace HB:=sB HB hb;(try clear hb)))
 go_roundg k1
 case measure=>have:=o.out;omega
 case rel=>exact⟨(g),(wrap64 (a+1)),sr,H',⟨by have:=o.out;omega⟩,⟨by exact sE d.out⟩,⟨by repeat(first|(with_reducible first|exact HK.out|apply Kept.alloc|apply Kept.drewN|apply Kept.drew)|exact HK.out)⟩,⟨sb⟩⟩)
 rw[if_neg t]at H
 exact absurd H (by simp))
 rw[if_neg p]at H
 have c3b0:=zF p
 clear p
 obtain rfl:=zI H
 go_wp2
 go_ret
 exact⟨_,sq,by exact sE d.out,sH HB.out,by repeat(first|(with_reducible first|exact HK.out|apply Kept.alloc|apply Kept.drewN|apply Kept.drew)|exact HK.out)⟩))
end Go.Proofs.Ytpdljgieaaicpaa.PFnExactGarbage
