/- Printed functions: slices_Index_string_string, slices_Contains_string_string, impl_Pattern_deferred. -/
import Derived.Test.YtdihlgkcpooadaaYIpP0
namespace Go.Proofs.Ytdihlgkcpooadaa.PFnExactIsPure
open Go.RowKit Go.Proofs.YtdihlgkcpooadaaG Go.Proofs.YtdihlgkcpooadaaW.PrintWords Go.Proofs.YtdihlgkcpooadaaW.PrintLast Go.Proofs.YtdihlgkcpooadaaW.PrintMore
attribute [local go_sem] max2_int min2_int max_two min_two max_three min_three max_four min_four
set_option linter.unusedVariables false
set_option linter.unusedSimpArgs false
def slices_Index_string_string.l0 : Nat → List ByteArray → ByteArray → Int → Int → Option (Int)
 |0,_,_,_,_=>none
 |k+1,x0,x1,x7,x8=>if x8<x7 then(if 0≤x8 then(if x8<(x0.length:Int)then(if x1.toList=(rdOf ByteArray.empty x0 x8).toList then(some x8)else(slices_Index_string_string.l0 k x0 x1 x7 (wrap64 (x8+1))))else(none))else(none))else(some (-1))
def slices_Index_string_string.f (k:Nat) (l0:List ByteArray) (a1:ByteArray):Option (Int):=slices_Index_string_string.l0 k l0 a1 (l0.length:Int) 0
set_option maxHeartbeats 8000000 in
set_option maxRecDepth 100000 in
theorem slices_Index_string_string.calls (k:Nat) (A0:Option Addr) (c0:Nat) (l0:List ByteArray) (a1:ByteArray) (r:Int) (w:World) (hr0:Kd.C Kd.string w A0 l0.length l0) (hc0:l0.length≤c0) (h:slices_Index_string_string.f k l0 a1=some r):
  Calls Try.prog 94 #[.slice A0 l0.length c0,.string a1] w fun e w'=>e= .returned (.int .i64 r)∧Drawn0 w w':=by
 have p:=zM hr0
 have x:=zM hc0
 clear hr0 hc0
 have H:(slices_Index_string_string.l0 k l0 a1 (l0.length:Int) 0)=some r:=h
 clear h
 have H':=zM H
 clear H
 go_enter Try.func94,Try.ntmps94
 go_wp2
 go_loopg [8] k (fun kq s w'=>∃(a:Int),s= .int .i64 a∧Aside0 (slices_Index_string_string.l0 kq l0 a1 (l0.length:Int) a=some r)∧Aside0 (kq≤k)∧Drawn0 w w')
 case atStart=>exact⟨(0),sr,H',⟨Nat.le_refl _⟩,by repeat(first|exact Drawn0.refl _|apply Drawn0.step)⟩
 case round=>(
 clear H'
 obtain⟨a,rfl,HA,q,⟨y,rfl⟩⟩:=hrel
 cases gk with
 |zero=>exact absurd HA.out (by simp[slices_Index_string_string.l0])
 |succ k1=>(
 have H:=HA.out
 clear HA
 simp only[slices_Index_string_string.l0]at H
 by_cases j:a<(l0.length:Int)
 ·(
 rw[if_pos j]at H
 have c3b0:=zT j
 clear j
 by_cases l:0≤a
 ·(
 rw[if_pos l]at H
 have c4b0:=zT l
 clear l
 by_cases m:a<(l0.length:Int)
 ·(
 rw[if_pos m]at H
 have c5b0:=zT m
 clear m
 by_cases c:a1.toList=(rdOf ByteArray.empty l0 a).toList
 ·(
 rw[if_pos c]at H
 have c6b0:(a1.toList==(rdOf ByteArray.empty l0 a).toList)=true:=zE c
 have c6b1:(a1.toList !=(rdOf ByteArray.empty l0 a).toList)=false:=zY c
 clear c
 obtain rfl:=zI H
 have d:0≤(a:Int):=zzA
 have i:a<(l0.length:Int):=zzA
 obtain⟨u,n,v⟩:=Kd.at_string p.out a d i
 cases n
 replace d:=eq_true d
 replace i:=eq_true i
 go_wp2
 go_ret
 exact⟨by first|rfl|(simp;done)|(simp[*];done),by repeat(first|exact Drawn0.refl _|apply Drawn0.step)⟩)
 rw[if_neg c]at H
 have c6b0:(a1.toList==(rdOf ByteArray.empty l0 a).toList)=false:=zN c
 have c6b1:(a1.toList !=(rdOf ByteArray.empty l0 a).toList)=true:=zX c
 have H':=zM H
 clear H
 have d:0≤(a:Int):=zzA
 have i:a<(l0.length:Int):=zzA
 obtain⟨u,n,v⟩:=Kd.at_string p.out a d i
 cases n
 replace d:=eq_true d
 replace i:=eq_true i
 go_wp2
 go_roundg k1
 case measure=>have:=q.out;omega
 case rel=>exact⟨(wrap64 (a+1)),sr,H',⟨by have:=q.out;omega⟩,by repeat(first|exact Drawn0.refl _|apply Drawn0.step)⟩)
 rw[if_neg m]at H
 exact absurd H (by simp))
 rw[if_neg l]at H
 exact absurd H (by simp))
 rw[if_neg j]at H
 have c3b0:=zF j
 clear j
 obtain rfl:=zI H
 go_wp2
 go_ret
 exact⟨by first|rfl|(simp;done)|(simp[*];done),by repeat(first|exact Drawn0.refl _|apply Drawn0.step)⟩))
def slices_Contains_string_string.f (k:Nat) (l0:List ByteArray) (a1:ByteArray):Option (Bool):=(slices_Index_string_string.f k l0 a1).bind fun t302=>(some (decide (t302≥0)))
set_option maxHeartbeats 8000000 in
set_option maxRecDepth 100000 in
theorem slices_Contains_string_string.calls (k:Nat) (A0:Option Addr) (c0:Nat) (l0:List ByteArray) (a1:ByteArray) (r:Bool) (w:World) (hr0:Kd.C Kd.string w A0 l0.length l0) (hc0:l0.length≤c0) (h:slices_Contains_string_string.f k l0 a1=some r):
  Calls Try.prog 82 #[.slice A0 l0.length c0,.string a1] w fun e w'=>e= .returned (.bool r)∧Drawn0 w w':=by
 have c:=zM hr0
 have d:=zM hc0
 clear hr0 hc0
 have H:((slices_Index_string_string.f k l0 a1).bind fun a=>(some (decide (a≥0))))=some r:=h
 clear h
 obtain⟨a,i,H⟩:=sO H
 obtain rfl:=zI H
 go_enter Try.func82,Try.ntmps82
 go_wp2_with (first|((with_reducible refine gate_callee (f:=94) rfl ?_);refine sC (some 7) Try.func94 #[.slice A0 l0.length c0,.string a1] (slices_Index_string_string.calls k _ _ l0 a1 a _ ?side1 ?side2 i.out) ?_;(case side1=>exact sD c.out);(case side2=>exact d.out);rintro e w' ⟨rfl,⟨nd,rfl⟩⟩;refine⟨_,rfl,?_⟩))
 go_ret
 exact⟨by first|rfl|(simp;done)|(simp[*];done),by repeat(first|exact Drawn0.refl _|apply Drawn0.step)⟩
mutual
def impl_Pattern_deferred.j0 : Nat → List ByteArray → Bool → Int → Int → ByteArray → List (S36) → Option (List ByteArray)
 |0,_,_,_,_,_,_=>none
 |k+1,x1,x16,x304000,x304001,x304002,x304003=>if x16=true then(if x1.length<8796093022208 then(impl_Pattern_deferred.j1 k (x1++[x304002]) x304000 x304001 x304002 x304003)else(none))else(impl_Pattern_deferred.j1 k x1 x304000 x304001 x304002 x304003)
def impl_Pattern_deferred.j1 : Nat → List ByteArray → Int → Int → ByteArray → List (S36) → Option (List ByteArray)
 |0,_,_,_,_,_=>none
 |k+1,x1,x304000,x304001,x304002,x304003=>impl_Pattern_deferred.l0 k x1 x304003 (x304003.length:Int) 0
def impl_Pattern_deferred.l0 : Nat → List ByteArray → List (S36) → Int → Int → Option (List ByteArray)
 |0,_,_,_,_=>none
 |k+1,x1,x23,x24,x25=>if x25<x24 then(if 0≤x25 then(if x25<(x23.length:Int)then((impl_Pattern_deferred.f k ((rd_T36 x23 x25).f0) ((rd_T36 x23 x25).f1) ((rd_T36 x23 x25).f2) ((rd_T36 x23 x25).f3) x1).bind fun t310=>(impl_Pattern_deferred.l0 k t310 x23 x24 (wrap64 (x25+1))))else(none))else(none))else(some x1)
def impl_Pattern_deferred.f : Nat → Int → Int → ByteArray → List (S36) → List ByteArray → Option (List ByteArray)
 |0,_,_,_,_,_=>none
 |k+1,a0_0,a0_1,a0_2,l0_3,l1=>if a0_0=24 then((slices_Contains_string_string.f k l1 a0_2).bind fun t304=>(impl_Pattern_deferred.j0 k l1 (!t304) a0_0 a0_1 a0_2 l0_3))else(impl_Pattern_deferred.j0 k l1 false a0_0 a0_1 a0_2 l0_3)
end
set_option maxHeartbeats 8000000 in
set_option maxRecDepth 100000 in
theorem impl_Pattern_deferred.calls (k:Nat):∀(a0_0:Int) (a0_1:Int) (a0_2:ByteArray) (A0_3:Option Addr) (c0_3:Nat) (l0_3:List (S36)) (P1_:Nat→Prop) (u9000_:Value) (l1:List ByteArray) (r:List ByteArray) (w0 w:World) (hB:Below w0.heap.size w0 w) (hr0_3:∀W_,Kept w W_ (fun a=>P1_ a)→Kd.C k36 W_ A0_3 l0_3.length l0_3) (hc0_3:l0_3.length≤c0_3) (ho1:Kd.R Kd.string 9 w w0.heap.size P1_ u9000_ l1) (h:impl_Pattern_deferred.f k a0_0 a0_1 a0_2 l0_3 l1=some r),
  Calls Try.prog 59 #[.agg #[.int .i64 a0_0,.int .i64 a0_1,.string a0_2,.slice A0_3 l0_3.length c0_3],u9000_] w fun e w'=>∃af:Value,e= .returned (af)∧Kd.R Kd.string 9 w' w0.heap.size (fun a=>(P1_ a∨w.heap.size≤a)) af r∧Below w0.heap.size w0 w'∧Kept w w' (fun a=>P1_ a):=by
 induction k using Nat.strongRecOn with
 |_ k ih=>
 intro a0_0 a0_1 a0_2 A0_3 c0_3 l0_3 P1_ u9000_ l1 r w0 w hB hr0_3 hc0_3 ho1 h
 cases k with
 |zero=>exact absurd h (by simp[impl_Pattern_deferred.f])
 |succ k=>
 simp only[impl_Pattern_deferred.f]at h
 have a3:=Try.underlying36
 have ag:=zM hr0_3
 have a4:=zM hc0_3
 clear hr0_3 hc0_3
 have n:=zM (show Kd.R Kd.string 9 w w0.heap.size (fun a=>(P1_ a∨w.heap.size≤a)) u9000_ l1 from Kd.R_mono ho1 (fun a hk=>(.inl hk)))
 have HK:=zM (Kept.refl w (fun a=>P1_ a))
 have a5:=zM hB.size
 have HB:=zM hB
 clear hB
 have H:(if a0_0=24 then((slices_Contains_string_string.f k l1 a0_2).bind fun I=>(impl_Pattern_deferred.j0 k l1 (!I) a0_0 a0_1 a0_2 l0_3))else(impl_Pattern_deferred.j0 k l1 false a0_0 a0_1 a0_2 l0_3))=some r:=h
 clear h
 have Y:=zM H
 clear H
 go_enter Try.func59,Try.ntmps59
 go_upto_region 1 with(first|((with_reducible refine gate_dst (N:=2) rfl ?_);refine sV (N:=2) (cs:= #[.int .i64 a0_0,.int .i64 a0_1,.string a0_2,.slice A0_3 l0_3.length c0_3]) (t:=36) ?_;intro x hg w4 hbox hb;have p:=zM (Kd.R_below (sE n.out) hb);have q:=zM (Kept.below (S:=(fun a=>P1_ a)) (by repeat(first|(with_reducible first|exact HK.out|apply Kept.alloc|apply Kept.drewN|apply Kept.drew)|exact HK.out)) hb);have s:=sB HB hb;have u:=zM (hbox);have v:=zM ((by rw[hg];exact(by first|exact HK.out.1|exact(show Kept w _ (fun a=>P1_ a) from by repeat(first|(with_reducible first|exact HK.out|apply Kept.alloc|apply Kept.drewN|apply Kept.drew)|exact HK.out)).1):w.heap.size≤x));have D:=zM ((by rw[hg];exact(below_size (sH HB.out)):w0.heap.size≤x));clear n;clear HK;clear HB;have n:=p;have HK:=q;have HB:=s;have c:=u;have j:=v;have E:=D;clear p q s u v D;clear hb hbox hg))
 (try simp only[zP])
 go_cut [16] (fun ar wc=>∃(kq:Nat) (J:Bool),ar= .bool J∧Aside0 (impl_Pattern_deferred.j0 kq l1 J a0_0 a0_1 a0_2 l0_3=some r)∧Aside0 (kq≤k)∧Aside0 (Kd.R Kd.string 9 wc w0.heap.size (fun a=>(P1_ a∨w.heap.size≤a)) u9000_ l1)∧Aside0 (wc.heap[x]?=some (.cells #[.int .i64 a0_0,.int .i64 a0_1,.string a0_2,(.slice A0_3 l0_3.length c0_3)] 36 (0,0)))∧Aside0 (Kept w wc (fun a=>P1_ a))∧Aside0 (Below w0.heap.size w0 wc))
 case first=>(
 have H:=Y.out
 clear Y
 by_cases y:a0_0=24
 ·(
 rw[if_pos y]at H
 have c5b0:(a0_0==24)=true:=zE y
 have c5b1:(a0_0 !=24)=false:=zY y
 clear y
 (first|rw[c5b0]|(simp only[i64_w,i32_w];rw[c5b0])|rw[c5b2]|skip)
 obtain⟨I,A6,H⟩:=sO H
 have H':=zM H
 clear H
 obtain⟨a6,a7,a8,a9,ba,bb,bc,bd⟩:=cells4 c.out
 obtain⟨be,bf,au⟩:=Kd.R_slice n.out
 subst au
 go_wp2_with (first|(go_at_call 82;(with_reducible refine(slices_Contains_string_string.calls k _ _ l1 a0_2 I _ ?side1 ?side2 A6.out).mono ?_);(case side1=>exact sD ((Kd.R_reads' n.out).2.2));(case side2=>exact(Kd.R_reads' n.out).2.1);rintro e w' ⟨rfl,⟨nd,rfl⟩⟩))
 go_meet
 case rel=>exact⟨_,(!I),sr,H',⟨by first|omega|exact Nat.le_refl _⟩,⟨by exact sE n.out⟩,⟨by exact sT c.out⟩,⟨by repeat(first|(with_reducible first|exact HK.out|apply Kept.alloc|apply Kept.drewN|apply Kept.drew|refine Kept.setCell ?_ (.inr j.out) _)|exact HK.out)⟩,⟨sb⟩⟩)
 rw[if_neg y]at H
 have c5b0:(a0_0==24)=false:=zN y
 have c5b1:(a0_0 !=24)=true:=zX y
 (first|rw[c5b0]|(simp only[i64_w,i32_w];rw[c5b0])|rw[c5b2]|skip)
 have H':=zM H
 clear H
 obtain⟨bg,bh,bi,bj,bk,bl,bm,bn⟩:=cells4 c.out
 go_wp2
 go_meet
 case rel=>exact⟨_,(false),sr,H',⟨by first|omega|exact Nat.le_refl _⟩,⟨by exact sE n.out⟩,⟨by exact sT c.out⟩,⟨by repeat(first|(with_reducible first|exact HK.out|apply Kept.alloc|apply Kept.drewN|apply Kept.drew|refine Kept.setCell ?_ (.inr j.out) _)|exact HK.out)⟩,⟨sb⟩⟩)
 case rest=>(
 clear Y
 obtain⟨kq,J,rfl,HA,F,i,c,HK,HB⟩:=hcut
 cases kq with
 |zero=>exact absurd HA.out (by simp[impl_Pattern_deferred.j0])
 |succ kj2=>(
 have H:=HA.out
 clear HA
 simp only[impl_Pattern_deferred.j0]at H
 have Z:=zM H
 clear H
 go_upto_if 16 with(fail)
 go_cut [1] (fun v1 wc=>∃(kq:Nat) (K:List ByteArray),Aside0 (impl_Pattern_deferred.j1 kq K a0_0 a0_1 a0_2 l0_3=some r)∧Aside0 (kq≤kj2)∧Aside0 (Kd.R Kd.string 9 wc w0.heap.size (fun a=>(P1_ a∨w.heap.size≤a)) v1 K)∧Aside0 (wc.heap[x]?=some (.cells #[.int .i64 a0_0,.int .i64 a0_1,.string a0_2,(.slice A0_3 l0_3.length c0_3)] 36 (0,0)))∧Aside0 (Kept w wc (fun a=>P1_ a))∧Aside0 (Below w0.heap.size w0 wc))
 case first=>(
 have H:=Z.out
 clear Z
 by_cases L:J=true
 ·(
 subst L
 rewrite[if_pos rfl]at H
 by_cases M:l1.length<8796093022208
 ·(
 rw[if_pos M]at H
 have av:=zM M
 clear M
 obtain⟨y305,hy305⟩:∃y_:List ByteArray,y_=(l1++[a0_2]):=⟨_,rfl⟩
 replace H:(impl_Pattern_deferred.j1 kj2 y305 a0_0 a0_1 a0_2 l0_3)=some r:=by first|(rw[hy305];with_reducible exact H)|(have aa:=(Option.bind_some _ _).symm.trans H;rw[hy305];with_reducible exact aa)|(have aa:=(Option.bind_some _ _).symm.trans H;with_reducible exact aa)|with_reducible exact H|(rw[hy305];exact H)|exact H
 have aw:=zM hy305
 clear hy305
 have H':=zM H
 clear H
 obtain⟨bo,bp,bq,br,bs,bt,bu,bv⟩:=cells4 c.out
 go_wp2_with (first|((with_reducible refine gate_builtin (b:= .append) (xs:= #[.tmp 17,.tmp 20]) rfl ?_);at_builtin;refine Kd.R_append Kd.string (w0:=w0) w0.heap.size rfl (.tmp 17) (.tmp 20) 93 9 (.string ⟨#[]⟩) 16 rfl Try.underlying93 info9 rfl (by decide) (by omega) u9000_ l1 a0_2 [.string a0_2] (fun a=>(P1_ a∨w.heap.size≤a)) (fun _=>False) rfl rfl ?aP (fun _ hk=>hk.elim) ?aF ?aO ?aB ?aS ?aL ?_;(case aP=>exact rfl);(case aB=>exact zzR);(case aF=>exact(fun a hk=>(.inr (Nat.le_trans (by first|exact HK.out.1|exact(show Kept w _ (fun a=>P1_ a) from by repeat(first|(with_reducible first|exact HK.out|apply Kept.alloc|apply Kept.drewN|apply Kept.drew|refine Kept.setCell ?_ (.inr j.out) _)|exact HK.out)).1) hk))));(case aO=>exact(sE i.out));(case aS=>exact(below_size zzR));(case aL=>have:=av.out;omega);intro bw bx ho hb hg hat;rw[←aw.out]at ho;replace c:=zM (blk_grown (g:=x) (o:= .cells #[.int .i64 a0_0,.int .i64 a0_1,.string a0_2,.slice A0_3 l0_3.length c0_3] 36 (0,0)) (sT c.out) hg (Kd.R_ne i.out c.out (by decide)));replace HB:=zM (hb);replace HK:=zM (Kept.of_grown (S:=(fun a=>P1_ a)) hg (by repeat(first|(with_reducible first|exact HK.out|apply Kept.alloc|apply Kept.drewN|apply Kept.drew|refine Kept.setCell ?_ (.inr j.out) _)|exact HK.out)) (fun a l=>(i.out.1 a l)));have ax:=zM (ho);clear i;clear ho hb hg hat))
 go_meet
 case rel=>exact⟨_,(y305),H',⟨by have:=F.out;first|omega|exact Nat.le_refl _⟩,⟨by exact sE ax.out⟩,⟨by exact sT c.out⟩,⟨by repeat(first|(with_reducible first|exact HK.out|apply Kept.alloc|apply Kept.drewN|apply Kept.drew|refine Kept.setCell ?_ (.inr j.out) _)|exact HK.out)⟩,⟨sb⟩⟩)
 rw[if_neg M]at H
 exact absurd H (by simp))
 replace L:=zB L
 subst L
 rewrite[if_neg zQ]at H
 have H':=zM H
 clear H
 go_wp2
 go_meet
 case rel=>exact⟨_,(l1),H',⟨by have:=F.out;first|omega|exact Nat.le_refl _⟩,⟨by exact sE i.out⟩,⟨by exact sT c.out⟩,⟨by repeat(first|(with_reducible first|exact HK.out|apply Kept.alloc|apply Kept.drewN|apply Kept.drew|refine Kept.setCell ?_ (.inr j.out) _)|exact HK.out)⟩,⟨sb⟩⟩)
 case rest=>(
 clear Z
 obtain⟨kq,K,HA,ab,i,c,HK,HB⟩:=hcut
 cases kq with
 |zero=>exact absurd HA.out (by simp[impl_Pattern_deferred.j1])
 |succ kj9=>(
 have H:=HA.out
 clear HA
 simp only[impl_Pattern_deferred.j1]at H
 have H':=zM H
 clear H
 obtain⟨ay,az,aA,aC,aD,aE,aG,aH⟩:=cells4 c.out
 go_wp2
 go_loopg [1,25] kj9 (fun kq v1 aI w'=>∃(z:List ByteArray) (d:Int),aI= .int .i64 d∧Aside0 (impl_Pattern_deferred.l0 kq z l0_3 (l0_3.length:Int) d=some r)∧Aside0 (kq≤kj9)∧Aside0 (Kd.R Kd.string 9 w' w0.heap.size (fun a=>(P1_ a∨w.heap.size≤a)) v1 z)∧Aside0 (w'.heap[x]?=some (.cells #[.int .i64 a0_0,.int .i64 a0_1,.string a0_2,(.slice A0_3 l0_3.length c0_3)] 36 (0,0)))∧Aside0 (Kept w w' (fun a=>P1_ a))∧Aside0 (Below w0.heap.size w0 w'))
 case atStart=>exact⟨(K),(0),sr,H',⟨Nat.le_refl _⟩,⟨by exact sE i.out⟩,⟨by exact sT c.out⟩,⟨by repeat(first|(with_reducible first|exact HK.out|apply Kept.alloc|apply Kept.drewN|apply Kept.drew|refine Kept.setCell ?_ (.inr j.out) _)|exact HK.out)⟩,⟨sb⟩⟩
 case round=>(
 clear H'
 try clear ay
 try clear az
 try clear aA
 try clear aC
 try clear aD
 try clear aE
 try clear aG
 try clear aH
 obtain⟨z,d,rfl,HA,ac,i,c,HK,HB⟩:=hrel
 cases gk with
 |zero=>exact absurd HA.out (by simp[impl_Pattern_deferred.l0])
 |succ k3=>(
 have H:=HA.out
 clear HA
 simp only[impl_Pattern_deferred.l0]at H
 by_cases A:d<(l0_3.length:Int)
 ·(
 rw[if_pos A]at H
 have c16b0:=zT A
 clear A
 by_cases O:0≤d
 ·(
 rw[if_pos O]at H
 have c17b0:=zT O
 clear O
 by_cases P:d<(l0_3.length:Int)
 ·(
 rw[if_pos P]at H
 have c18b0:=zT P
 clear P
 obtain⟨ah,aJ,H⟩:=sO H
 have H':=zM H
 clear H
 have T:0≤(d:Int):=zzA
 have U:d<(l0_3.length:Int):=zzA
 obtain⟨aK,ai,aj,aM,bz,bA,bB,aN,ak,al⟩:=at_T36 (Kd.C_kept_now ag.out HK.out) d T U
 cases aM
 have aQ:=zM (seen_kept (Q:=fun E_ A_=>Kd.C k36 E_ A_ ((rd_T36 l0_3 d).f3).length ((rd_T36 l0_3 d).f3)) (fun E_ aR=>by obtain⟨bC,bD,bE,l,bF,bG,bH,aT,bI,aU⟩:=at_T36 (ag.out E_ aR) d T U;injection l with l;subst l;exact⟨_,_,aT,aU⟩) HK.out aN)
 have V:=zM al
 have aV:=zM ak
 clear al ak
 replace T:=eq_true T
 replace U:=eq_true U
 go_wp2_with (first|((with_reducible refine gate_dst (N:=6) rfl ?_);refine sV (N:=6) (cs:= #[.int .i64 0,.int .i64 0,.string (⟨#[]⟩:ByteArray),.slice none 0 0]) (t:=36) ?_;intro W hg bJ hbox hb;have p:=zM (Kd.R_below (sE i.out) hb);have q:=sK c hb;have s:=zM (zC (by repeat(first|(with_reducible exact V.out)|(with_reducible refine Kd.C_alloc ?_ _)|(with_reducible refine Kd.C_drewN ?_ _)|(with_reducible refine Kd.C_drew ?_)|exact V.out)) hb);have u:=zM (Kept.below (S:=(fun a=>P1_ a)) (by repeat(first|(with_reducible first|exact HK.out|apply Kept.alloc|apply Kept.drewN|apply Kept.drew|refine Kept.setCell ?_ (.inr j.out) _)|exact HK.out)) hb);have v:=sB HB hb;have D:=zM (hbox);have am:=zM ((by rw[hg];exact(by first|exact HK.out.1|exact(show Kept w _ (fun a=>P1_ a) from by repeat(first|(with_reducible first|exact HK.out|apply Kept.alloc|apply Kept.drewN|apply Kept.drew|refine Kept.setCell ?_ (.inr j.out) _)|exact HK.out)).1):w.heap.size≤W));have an:=zM ((by rw[hg];exact(below_size zzR):w0.heap.size≤W));have ao:=sN c hg;have ap:=sM c hg;clear i;clear c;clear V;clear HK;clear HB;have i:=p;have c:=q;have V:=s;have HK:=u;have HB:=v;have B:=D;have X:=am;have aW:=an;have G:=ao;have aX:=ap;clear p q s u v D am an ao ap;clear hb hbox hg;have bK:=aX.out;have bL:=G.out;obtain⟨bM,bN,bO,bP,bQ,bR,bS,bT⟩:=cells4 B.out;obtain⟨ad,ae,aY⟩:=Kd.R_slice i.out;subst aY)|((with_reducible refine gate_callee (f:=59) rfl ?_);refine goesL_ (some 31) rfl rfl Try.func59 (by kernel_rfl) rfl #[.agg #[.int .i64 ((rd_T36 l0_3 d).f0),.int .i64 ((rd_T36 l0_3 d).f1),.string ((rd_T36 l0_3 d).f2),.slice ai ((rd_T36 l0_3 d).f3).length aj],.slice ad z.length ae] rfl (by(try simp only[List.map_toArray,List.map_cons,List.map_nil]);first|done|rfl|(simp only[List.length_drop,List.length_take];rfl)) ?_;(with_reducible refine(ih k3 (by have:=F.out;have:=ab.out;have:=ac.out;omega) ((rd_T36 l0_3 d).f0) ((rd_T36 l0_3 d).f1) ((rd_T36 l0_3 d).f2) _ _ ((rd_T36 l0_3 d).f3) (fun a=>some a=(.slice ad z.length ae:Value).ownBlock) (.slice ad z.length ae) z ah w0 _ ?side1 ?side2 ?side3 ?side4 aJ.out).mono ?_);(case side1=>repeat(first|(with_reducible first|exact HB.out|apply below_alloc|apply pw_below_drewN|apply below_drew1|refine below_set ?_ E.out|refine below_set ?_ aW.out)|exact HB.out));(case side2=>exact Kd.C_kept_call aQ.out (by repeat(first|(with_reducible first|exact HK.out|apply Kept.alloc|apply Kept.drewN|apply Kept.drew|refine Kept.setCell ?_ (.inr j.out) _|refine Kept.setCell ?_ (.inr X.out) _)|exact HK.out)) (fun a m=>(fun l=>(i.out.1 a l.symm)) m));(case side3=>exact aV.out);(case side4=>exact Kd.R_tight rfl (sRF4 (g:=W) (Kd.R_types i.out B.out (by decide)) (fun _ hk=>hk.2)));rintro e bU ⟨bV,rfl,aq,hb,hkp⟩;refine⟨_,rfl,?_⟩;have p:=zM (blk_kept (g:=x) (o:= .cells #[.int .i64 a0_0,.int .i64 a0_1,.string a0_2,(.slice (some aK) l0_3.length c0_3)] 36 (0,0)) (by(with_reducible repeat(first|refine blk_drewN ?_ _|refine blk_drew ?_|refine blk_alloc ?_ _));refine blk_far ?_ G.out _;(with_reducible repeat(first|refine blk_drewN ?_ _|refine blk_drew ?_|refine blk_alloc ?_ _));refine blk_far ?_ G.out _;(with_reducible repeat(first|refine blk_drewN ?_ _|refine blk_drew ?_|refine blk_alloc ?_ _));refine blk_far ?_ G.out _;(with_reducible repeat(first|refine blk_drewN ?_ _|refine blk_drew ?_|refine blk_alloc ?_ _));refine blk_far ?_ G.out _;exact sT c.out) hkp (fun m=>(fun l=>(Kd.R_ne i.out c.out (by decide)) l) m));have q:=zM (blk_kept (g:=W) (o:= .cells #[.int .i64 ((rd_T36 l0_3 d).f0),.int .i64 ((rd_T36 l0_3 d).f1),.string ((rd_T36 l0_3 d).f2),.slice ai ((rd_T36 l0_3 d).f3).length aj] 36 (0,0)) (by exact sP4 (sT B.out)) hkp (fun m=>(fun l=>(Kd.R_ne i.out B.out (by decide)) l) m));have s:=zM (Kd.R_mono (ok':=fun a=>(P1_ a∨w.heap.size≤a)) aq (fun a aZ=>Or.elim aZ (fun m=>(i.out.1 a (m).symm)) (fun a0=>(.inr (Nat.le_trans (show Kept w _ (fun a=>P1_ a) from by repeat(first|(with_reducible first|exact HK.out|apply Kept.alloc|apply Kept.drewN|apply Kept.drew|refine Kept.setCell ?_ (.inr j.out) _|refine Kept.setCell ?_ (.inr X.out) _)|exact HK.out)).1 a0)))));have u:=zM (Kept.then_ (S:=(fun a=>P1_ a)) (by repeat(first|(with_reducible first|exact HK.out|apply Kept.alloc|apply Kept.drewN|apply Kept.drew|refine Kept.setCell ?_ (.inr j.out) _|refine Kept.setCell ?_ (.inr X.out) _)|exact HK.out)) hkp (fun a m=>(fun l=>(i.out.1 a l.symm)) m));have v:=zM (hb);clear c;clear B;clear HK;clear HB;clear i;have c:=p;have B:=q;have a2:=s;have HK:=u;have HB:=v;clear p q s u v;(try clear hb);(try clear hkp);(try clear aq)))
 go_roundg k3
 case measure=>have:=F.out;have:=ab.out;have:=ac.out;omega
 case rel=>exact⟨(ah),(wrap64 (d+1)),sr,H',⟨by have:=F.out;have:=ab.out;have:=ac.out;omega⟩,⟨by exact sE a2.out⟩,⟨by exact sT c.out⟩,⟨by repeat(first|(with_reducible first|exact HK.out|apply Kept.alloc|apply Kept.drewN|apply Kept.drew|refine Kept.setCell ?_ (.inr j.out) _|refine Kept.setCell ?_ (.inr X.out) _)|exact HK.out)⟩,⟨sb⟩⟩)
 rw[if_neg P]at H
 exact absurd H (by simp))
 rw[if_neg O]at H
 exact absurd H (by simp))
 rw[if_neg A]at H
 have c16b0:=zF A
 clear A
 obtain rfl:=zI H
 go_wp2
 go_ret
 exact⟨_,sq,by exact sE i.out,by repeat(first|(with_reducible first|exact HB.out|apply below_alloc|apply pw_below_drewN|apply below_drew1|refine below_set ?_ E.out)|exact HB.out),by repeat(first|(with_reducible first|exact HK.out|apply Kept.alloc|apply Kept.drewN|apply Kept.drew|refine Kept.setCell ?_ (.inr j.out) _)|exact HK.out)⟩))))))
end Go.Proofs.Ytdihlgkcpooadaa.PFnExactIsPure
