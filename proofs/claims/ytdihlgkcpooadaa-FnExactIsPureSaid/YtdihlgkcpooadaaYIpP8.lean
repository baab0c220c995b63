/- Printed functions: spec_l11Names. -/
import Derived.Test.YtdihlgkcpooadaaYIpP0
namespace Go.Proofs.Ytdihlgkcpooadaa.PFnExactIsPure
open Go.RowKit Go.Proofs.YtdihlgkcpooadaaG Go.Proofs.YtdihlgkcpooadaaW.PrintWords Go.Proofs.YtdihlgkcpooadaaW.PrintLast Go.Proofs.YtdihlgkcpooadaaW.PrintMore
attribute [local go_sem] max2_int min2_int max_two min_two max_three min_three max_four min_four
set_option linter.unusedVariables false
set_option linter.unusedSimpArgs false
mutual
def spec_l11Names.l0 : Nat → List ByteArray → Int → Int → Int → ByteArray → List (S36) → Option (List ByteArray)
 |0,_,_,_,_,_,_=>none
 |k+1,x1,x5,x172000,x172001,x172002,x172003=>if x5<(x1.length:Int)then(if 0≤x5 then(if(rdOf ByteArray.empty x1 x5).toList=x172002.toList then(some x1)else(spec_l11Names.l0 k x1 (wrap64 (x5+1)) x172000 x172001 x172002 x172003))else(none))else(if x1.length<8796093022208 then(some (x1++[x172002]))else(none))
def spec_l11Names.l1 : Nat → List ByteArray → Int → Int → Int → ByteArray → List (S36) → Option (List ByteArray)
 |0,_,_,_,_,_,_=>none
 |k+1,x1,x6,x172000,x172001,x172002,x172003=>if x6<(x172003.length:Int)then(if 0≤x6 then((spec_l11Names.f k ((rd_T36 x172003 x6).f0) ((rd_T36 x172003 x6).f1) ((rd_T36 x172003 x6).f2) ((rd_T36 x172003 x6).f3) x1).bind fun t177=>(spec_l11Names.l1 k t177 (wrap64 (x6+1)) x172000 x172001 x172002 x172003))else(none))else(some x1)
def spec_l11Names.f : Nat → Int → Int → ByteArray → List (S36) → List ByteArray → Option (List ByteArray)
 |0,_,_,_,_,_=>none
 |k+1,a0_0,a0_1,a0_2,l0_3,l1=>if a0_0=24 then(spec_l11Names.l0 k l1 0 a0_0 a0_1 a0_2 l0_3)else(spec_l11Names.l1 k l1 0 a0_0 a0_1 a0_2 l0_3)
end
set_option maxHeartbeats 8000000 in
set_option maxRecDepth 100000 in
theorem spec_l11Names.calls (k:Nat):∀(a0_0:Int) (a0_1:Int) (a0_2:ByteArray) (A0_3:Option Addr) (c0_3:Nat) (l0_3:List (S36)) (P1_:Nat→Prop) (u9000_:Value) (l1:List ByteArray) (r:List ByteArray) (w0 w:World) (hB:Below w0.heap.size w0 w) (hr0_3:∀W_,Kept w W_ (fun a=>P1_ a)→Kd.C k36 W_ A0_3 l0_3.length l0_3) (hc0_3:l0_3.length≤c0_3) (ho1:Kd.R Kd.string 9 w w0.heap.size P1_ u9000_ l1) (h:spec_l11Names.f k a0_0 a0_1 a0_2 l0_3 l1=some r),
  Calls Try.prog 81 #[.agg #[.int .i64 a0_0,.int .i64 a0_1,.string a0_2,.slice A0_3 l0_3.length c0_3],u9000_] w fun e w'=>∃aE:Value,e= .returned (aE)∧Kd.R Kd.string 9 w' w0.heap.size (fun a=>(P1_ a∨w.heap.size≤a)) aE r∧Below w0.heap.size w0 w'∧Kept w w' (fun a=>P1_ a):=by
 induction k using Nat.strongRecOn with
 |_ k ih=>
 intro a0_0 a0_1 a0_2 A0_3 c0_3 l0_3 P1_ u9000_ l1 r w0 w hB hr0_3 hc0_3 ho1 h
 cases k with
 |zero=>exact absurd h (by simp[spec_l11Names.f])
 |succ k=>
 simp only[spec_l11Names.f]at h
 have a3:=Try.underlying36
 have aG:=zM hr0_3
 have a4:=zM hc0_3
 clear hr0_3 hc0_3
 have p:=zM (show Kd.R Kd.string 9 w w0.heap.size (fun a=>(P1_ a∨w.heap.size≤a)) u9000_ l1 from Kd.R_mono ho1 (fun a hk=>(.inl hk)))
 have HK:=zM (Kept.refl w (fun a=>P1_ a))
 have a5:=zM hB.size
 have HB:=zM hB
 clear hB
 have H:(if a0_0=24 then(spec_l11Names.l0 k l1 0 a0_0 a0_1 a0_2 l0_3)else(spec_l11Names.l1 k l1 0 a0_0 a0_1 a0_2 l0_3))=some r:=h
 clear h
 by_cases D:a0_0=24
 ·(
 rw[if_pos D]at H
 have c3b0:(a0_0==24)=true:=zE D
 have c3b1:(a0_0 !=24)=false:=zY D
 clear D
 have H':=zM H
 clear H
 go_enter Try.func81,Try.ntmps81
 go_wp2_with (first|((with_reducible refine gate_dst (N:=2) rfl ?_);refine sV (N:=2) (cs:= #[.int .i64 a0_0,.int .i64 a0_1,.string a0_2,.slice A0_3 l0_3.length c0_3]) (t:=36) ?_;intro n hg w4 hbox hb;have q:=zM (Kd.R_below (sE p.out) hb);have s:=zM (Kept.below (S:=(fun a=>P1_ a)) (by repeat(first|(with_reducible first|exact HK.out|apply Kept.alloc|apply Kept.drewN|apply Kept.drew)|exact HK.out)) hb);have u:=sB HB hb;have v:=zM (hbox);have x:=zM ((by rw[hg];exact(by first|exact HK.out.1|exact(show Kept w _ (fun a=>P1_ a) from by repeat(first|(with_reducible first|exact HK.out|apply Kept.alloc|apply Kept.drewN|apply Kept.drew)|exact HK.out)).1):w.heap.size≤n));have y:=zM ((by rw[hg];exact(below_size (sH HB.out)):w0.heap.size≤n));clear p;clear HK;clear HB;have p:=q;have HK:=s;have HB:=u;have c:=v;have i:=x;have z:=y;clear q s u v x y;clear hb hbox hg;obtain⟨aa,ab,ac,ad,ae,af,ag,ah⟩:=cells4 c.out))
 repeat(go_quiet (first|((with_reducible refine gate_dst (N:=2) rfl ?_);refine sV (N:=2) (cs:= #[.int .i64 a0_0,.int .i64 a0_1,.string a0_2,.slice A0_3 l0_3.length c0_3]) (t:=36) ?_;intro n hg w4 hbox hb;have q:=zM (Kd.R_below (sE p.out) hb);have s:=zM (Kept.below (S:=(fun a=>P1_ a)) (by repeat(first|(with_reducible first|exact HK.out|apply Kept.alloc|apply Kept.drewN|apply Kept.drew)|exact HK.out)) hb);have u:=sB HB hb;have v:=zM (hbox);have x:=zM ((by rw[hg];exact(by first|exact HK.out.1|exact(show Kept w _ (fun a=>P1_ a) from by repeat(first|(with_reducible first|exact HK.out|apply Kept.alloc|apply Kept.drewN|apply Kept.drew)|exact HK.out)).1):w.heap.size≤n));have y:=zM ((by rw[hg];exact(below_size (sH HB.out)):w0.heap.size≤n));clear p;clear HK;clear HB;have p:=q;have HK:=s;have HB:=u;have c:=v;have i:=x;have z:=y;clear q s u v x y;clear hb hbox hg;obtain⟨aa,ab,ac,ad,ae,af,ag,ah⟩:=cells4 c.out));try go_wp2_with (first|((with_reducible refine gate_dst (N:=2) rfl ?_);refine sV (N:=2) (cs:= #[.int .i64 a0_0,.int .i64 a0_1,.string a0_2,.slice A0_3 l0_3.length c0_3]) (t:=36) ?_;intro n hg w4 hbox hb;have q:=zM (Kd.R_below (sE p.out) hb);have s:=zM (Kept.below (S:=(fun a=>P1_ a)) (by repeat(first|(with_reducible first|exact HK.out|apply Kept.alloc|apply Kept.drewN|apply Kept.drew)|exact HK.out)) hb);have u:=sB HB hb;have v:=zM (hbox);have x:=zM ((by rw[hg];exact(by first|exact HK.out.1|exact(show Kept w _ (fun a=>P1_ a) from by repeat(first|(with_reducible first|exact HK.out|apply Kept.alloc|apply Kept.drewN|apply Kept.drew)|exact HK.out)).1):w.heap.size≤n));have y:=zM ((by rw[hg];exact(below_size (sH HB.out)):w0.heap.size≤n));clear p;clear HK;clear HB;have p:=q;have HK:=s;have HB:=u;have c:=v;have i:=x;have z:=y;clear q s u v x y;clear hb hbox hg;obtain⟨aa,ab,ac,ad,ae,af,ag,ah⟩:=cells4 c.out)))
 go_loopg [5] k (fun kq v5 w'=>∃(A:Int),v5= .int .i64 A∧Aside0 (spec_l11Names.l0 kq l1 A a0_0 a0_1 a0_2 l0_3=some r)∧Aside0 (kq≤k)∧Aside0 (Kd.R Kd.string 9 w' w0.heap.size (fun a=>(P1_ a∨w.heap.size≤a)) u9000_ l1)∧Aside0 (w'.heap[n]?=some (.cells #[.int .i64 a0_0,.int .i64 a0_1,.string a0_2,(.slice A0_3 l0_3.length c0_3)] 36 (0,0)))∧Aside0 (Kept w w' (fun a=>P1_ a))∧Aside0 (Below w0.heap.size w0 w'))
 case atStart=>exact⟨(0),sr,H',⟨Nat.le_refl _⟩,⟨by exact sE p.out⟩,⟨by exact sT c.out⟩,⟨by repeat(first|(with_reducible first|exact HK.out|apply Kept.alloc|apply Kept.drewN|apply Kept.drew|refine Kept.setCell ?_ (.inr i.out) _)|exact HK.out)⟩,⟨sb⟩⟩
 case round=>(
 clear H'
 try clear D
 try clear c3b0
 try clear c3b1
 try clear aa
 try clear ab
 try clear ac
 try clear ad
 try clear ae
 try clear af
 try clear ag
 try clear ah
 obtain⟨A,rfl,HA,E,d,c,HK,HB⟩:=hrel
 cases gk with
 |zero=>exact absurd HA.out (by simp[spec_l11Names.l0])
 |succ k1=>(
 have H:=HA.out
 clear HA
 simp only[spec_l11Names.l0]at H
 by_cases K:A<(l1.length:Int)
 ·(
 rw[if_pos K]at H
 have c6b0:=zT K
 clear K
 by_cases U:0≤A
 ·(
 rw[if_pos U]at H
 have c7b0:=zT U
 clear U
 by_cases G:(rdOf ByteArray.empty l1 A).toList=a0_2.toList
 ·(
 rw[if_pos G]at H
 have c8b0:((rdOf ByteArray.empty l1 A).toList==a0_2.toList)=true:=zE G
 have c8b1:((rdOf ByteArray.empty l1 A).toList !=a0_2.toList)=false:=zY G
 clear G
 obtain rfl:=zI H
 obtain⟨a6,a7,aR⟩:=Kd.R_slice d.out
 subst aR
 have I:0≤(A:Int):=zzA
 have J:A<(l1.length:Int):=zzA
 obtain⟨aT,ai,aU⟩:=Kd.at_string (Kd.R_reads' d.out).2.2 A I J
 cases ai
 replace I:=eq_true I
 replace J:=eq_true J
 obtain⟨a8,a9,ba,bb,bc,bd,be,bf⟩:=cells4 c.out
 go_wp2
 repeat(go_quiet (fail);try go_wp2)
 go_ret
 exact⟨_,sq,by exact sE d.out,by repeat(first|(with_reducible first|exact HB.out|apply below_alloc|apply pw_below_drewN|apply below_drew1|refine below_set ?_ z.out)|exact HB.out),by repeat(first|(with_reducible first|exact HK.out|apply Kept.alloc|apply Kept.drewN|apply Kept.drew|refine Kept.setCell ?_ (.inr i.out) _)|exact HK.out)⟩)
 rw[if_neg G]at H
 have c8b0:((rdOf ByteArray.empty l1 A).toList==a0_2.toList)=false:=zN G
 have c8b1:((rdOf ByteArray.empty l1 A).toList !=a0_2.toList)=true:=zX G
 have H':=zM H
 clear H
 obtain⟨bg,bh,aV⟩:=Kd.R_slice d.out
 subst aV
 have I:0≤(A:Int):=zzA
 have J:A<(l1.length:Int):=zzA
 obtain⟨aT,ai,aU⟩:=Kd.at_string (Kd.R_reads' d.out).2.2 A I J
 cases ai
 replace I:=eq_true I
 replace J:=eq_true J
 obtain⟨bi,bj,bk,bl,bm,bn,bo,bp⟩:=cells4 c.out
 go_wp2
 repeat(go_quiet (fail);try go_wp2)
 go_roundg k1
 case measure=>have:=E.out;omega
 case rel=>exact⟨(wrap64 (A+1)),sr,H',⟨by have:=E.out;omega⟩,⟨by exact sE d.out⟩,⟨by exact sT c.out⟩,⟨by repeat(first|(with_reducible first|exact HK.out|apply Kept.alloc|apply Kept.drewN|apply Kept.drew|refine Kept.setCell ?_ (.inr i.out) _)|exact HK.out)⟩,⟨sb⟩⟩)
 rw[if_neg U]at H
 exact absurd H (by simp))
 rw[if_neg K]at H
 have c6b0:=zF K
 clear K
 by_cases V:l1.length<8796093022208
 ·(
 rw[if_pos V]at H
 have aj:=zM V
 clear V
 obtain⟨y173,hy173⟩:∃y_:List ByteArray,y_=(l1++[a0_2]):=⟨_,rfl⟩
 replace H:(some y173)=some r:=by first|(rw[hy173];with_reducible exact H)|(have ak:=(Option.bind_some _ _).symm.trans H;rw[hy173];with_reducible exact ak)|(have ak:=(Option.bind_some _ _).symm.trans H;with_reducible exact ak)|with_reducible exact H|(rw[hy173];exact H)|exact H
 have al:=zM hy173
 clear hy173
 obtain rfl:=zI H
 obtain⟨am,an,aW⟩:=Kd.R_slice d.out
 subst aW
 obtain⟨bq,br,bs,bt,bu,bv,bw,bx⟩:=cells4 c.out
 go_wp2_with (first|((with_reducible refine gate_builtin (b:= .append) (xs:= #[.tmp 24,.tmp 27]) rfl ?_);at_builtin;refine Kd.R_append Kd.string (w0:=w0) w0.heap.size rfl (.tmp 24) (.tmp 27) 93 9 (.string ⟨#[]⟩) 16 rfl Try.underlying93 info9 rfl (by decide) (by omega) (.slice am l1.length an) l1 a0_2 [.string a0_2] (fun a=>(P1_ a∨w.heap.size≤a)) (fun _=>False) rfl rfl ?aP (fun _ hk=>hk.elim) ?aF ?aO ?aB ?aS ?aL ?_;(case aP=>exact rfl);(case aB=>exact zzR);(case aF=>exact(fun a hk=>(.inr (Nat.le_trans (by first|exact HK.out.1|exact(show Kept w _ (fun a=>P1_ a) from by repeat(first|(with_reducible first|exact HK.out|apply Kept.alloc|apply Kept.drewN|apply Kept.drew|refine Kept.setCell ?_ (.inr i.out) _)|exact HK.out)).1) hk))));(case aO=>exact(sE d.out));(case aS=>exact(below_size zzR));(case aL=>have:=aj.out;omega);intro aH aI ho hb hg hat;rw[←al.out]at ho;replace c:=zM (blk_grown (g:=n) (o:= .cells #[.int .i64 a0_0,.int .i64 a0_1,.string a0_2,.slice A0_3 l0_3.length c0_3] 36 (0,0)) (sT c.out) hg (Kd.R_ne d.out c.out (by decide)));replace HB:=zM (hb);replace HK:=zM (Kept.of_grown (S:=(fun a=>P1_ a)) hg (by repeat(first|(with_reducible first|exact HK.out|apply Kept.alloc|apply Kept.drewN|apply Kept.drew|refine Kept.setCell ?_ (.inr i.out) _)|exact HK.out)) (fun a j=>(d.out.1 a j)));have ao:=zM (ho);clear d;clear ho hb hg hat))
 repeat(go_quiet (first|((with_reducible refine gate_builtin (b:= .append) (xs:= #[.tmp 24,.tmp 27]) rfl ?_);at_builtin;refine Kd.R_append Kd.string (w0:=w0) w0.heap.size rfl (.tmp 24) (.tmp 27) 93 9 (.string ⟨#[]⟩) 16 rfl Try.underlying93 info9 rfl (by decide) (by omega) (.slice am l1.length an) l1 a0_2 [.string a0_2] (fun a=>(P1_ a∨w.heap.size≤a)) (fun _=>False) rfl rfl ?aP (fun _ hk=>hk.elim) ?aF ?aO ?aB ?aS ?aL ?_;(case aP=>exact rfl);(case aB=>exact zzR);(case aF=>exact(fun a hk=>(.inr (Nat.le_trans (by first|exact HK.out.1|exact(show Kept w _ (fun a=>P1_ a) from by repeat(first|(with_reducible first|exact HK.out|apply Kept.alloc|apply Kept.drewN|apply Kept.drew|refine Kept.setCell ?_ (.inr i.out) _)|exact HK.out)).1) hk))));(case aO=>exact(sE d.out));(case aS=>exact(below_size zzR));(case aL=>have:=aj.out;omega);intro aH aI ho hb hg hat;rw[←al.out]at ho;replace c:=zM (blk_grown (g:=n) (o:= .cells #[.int .i64 a0_0,.int .i64 a0_1,.string a0_2,.slice A0_3 l0_3.length c0_3] 36 (0,0)) (sT c.out) hg (Kd.R_ne d.out c.out (by decide)));replace HB:=zM (hb);replace HK:=zM (Kept.of_grown (S:=(fun a=>P1_ a)) hg (by repeat(first|(with_reducible first|exact HK.out|apply Kept.alloc|apply Kept.drewN|apply Kept.drew|refine Kept.setCell ?_ (.inr i.out) _)|exact HK.out)) (fun a j=>(d.out.1 a j)));have ao:=zM (ho);clear d;clear ho hb hg hat));try go_wp2_with (first|((with_reducible refine gate_builtin (b:= .append) (xs:= #[.tmp 24,.tmp 27]) rfl ?_);at_builtin;refine Kd.R_append Kd.string (w0:=w0) w0.heap.size rfl (.tmp 24) (.tmp 27) 93 9 (.string ⟨#[]⟩) 16 rfl Try.underlying93 info9 rfl (by decide) (by omega) (.slice am l1.length an) l1 a0_2 [.string a0_2] (fun a=>(P1_ a∨w.heap.size≤a)) (fun _=>False) rfl rfl ?aP (fun _ hk=>hk.elim) ?aF ?aO ?aB ?aS ?aL ?_;(case aP=>exact rfl);(case aB=>exact zzR);(case aF=>exact(fun a hk=>(.inr (Nat.le_trans (by first|exact HK.out.1|exact(show Kept w _ (fun a=>P1_ a) from by repeat(first|(with_reducible first|exact HK.out|apply Kept.alloc|apply Kept.drewN|apply Kept.drew|refine Kept.setCell ?_ (.inr i.out) _)|exact HK.out)).1) hk))));(case aO=>exact(sE d.out));(case aS=>exact(below_size zzR));(case aL=>have:=aj.out;omega);intro aH aI ho hb hg hat;rw[←al.out]at ho;replace c:=zM (blk_grown (g:=n) (o:= .cells #[.int .i64 a0_0,.int .i64 a0_1,.string a0_2,.slice A0_3 l0_3.length c0_3] 36 (0,0)) (sT c.out) hg (Kd.R_ne d.out c.out (by decide)));replace HB:=zM (hb);replace HK:=zM (Kept.of_grown (S:=(fun a=>P1_ a)) hg (by repeat(first|(with_reducible first|exact HK.out|apply Kept.alloc|apply Kept.drewN|apply Kept.drew|refine Kept.setCell ?_ (.inr i.out) _)|exact HK.out)) (fun a j=>(d.out.1 a j)));have ao:=zM (ho);clear d;clear ho hb hg hat)))
 go_ret
 exact⟨_,sq,by exact sE ao.out,by repeat(first|(with_reducible first|exact HB.out|apply below_alloc|apply pw_below_drewN|apply below_drew1|refine below_set ?_ z.out)|exact HB.out),by repeat(first|(with_reducible first|exact HK.out|apply Kept.alloc|apply Kept.drewN|apply Kept.drew|refine Kept.setCell ?_ (.inr i.out) _)|exact HK.out)⟩)
 rw[if_neg V]at H
 exact absurd H (by simp))))
 rw[if_neg D]at H
 have c3b0:(a0_0==24)=false:=zN D
 have c3b1:(a0_0 !=24)=true:=zX D
 have H':=zM H
 clear H
 go_enter Try.func81,Try.ntmps81
 go_wp2_with (first|((with_reducible refine gate_dst (N:=2) rfl ?_);refine sV (N:=2) (cs:= #[.int .i64 a0_0,.int .i64 a0_1,.string a0_2,.slice A0_3 l0_3.length c0_3]) (t:=36) ?_;intro n hg aJ hbox hb;have q:=zM (Kd.R_below (sE p.out) hb);have s:=zM (Kept.below (S:=(fun a=>P1_ a)) (by repeat(first|(with_reducible first|exact HK.out|apply Kept.alloc|apply Kept.drewN|apply Kept.drew)|exact HK.out)) hb);have u:=sB HB hb;have v:=zM (hbox);have x:=zM ((by rw[hg];exact(by first|exact HK.out.1|exact(show Kept w _ (fun a=>P1_ a) from by repeat(first|(with_reducible first|exact HK.out|apply Kept.alloc|apply Kept.drewN|apply Kept.drew)|exact HK.out)).1):w.heap.size≤n));have y:=zM ((by rw[hg];exact(below_size (sH HB.out)):w0.heap.size≤n));clear p;clear HK;clear HB;have p:=q;have HK:=s;have HB:=u;have c:=v;have i:=x;have z:=y;clear q s u v x y;clear hb hbox hg;obtain⟨ap,aq,ar,au,av,aw,ax,ay⟩:=cells4 c.out))
 repeat(go_quiet (first|((with_reducible refine gate_dst (N:=2) rfl ?_);refine sV (N:=2) (cs:= #[.int .i64 a0_0,.int .i64 a0_1,.string a0_2,.slice A0_3 l0_3.length c0_3]) (t:=36) ?_;intro n hg aJ hbox hb;have q:=zM (Kd.R_below (sE p.out) hb);have s:=zM (Kept.below (S:=(fun a=>P1_ a)) (by repeat(first|(with_reducible first|exact HK.out|apply Kept.alloc|apply Kept.drewN|apply Kept.drew)|exact HK.out)) hb);have u:=sB HB hb;have v:=zM (hbox);have x:=zM ((by rw[hg];exact(by first|exact HK.out.1|exact(show Kept w _ (fun a=>P1_ a) from by repeat(first|(with_reducible first|exact HK.out|apply Kept.alloc|apply Kept.drewN|apply Kept.drew)|exact HK.out)).1):w.heap.size≤n));have y:=zM ((by rw[hg];exact(below_size (sH HB.out)):w0.heap.size≤n));clear p;clear HK;clear HB;have p:=q;have HK:=s;have HB:=u;have c:=v;have i:=x;have z:=y;clear q s u v x y;clear hb hbox hg;obtain⟨ap,aq,ar,au,av,aw,ax,ay⟩:=cells4 c.out));try go_wp2_with (first|((with_reducible refine gate_dst (N:=2) rfl ?_);refine sV (N:=2) (cs:= #[.int .i64 a0_0,.int .i64 a0_1,.string a0_2,.slice A0_3 l0_3.length c0_3]) (t:=36) ?_;intro n hg aJ hbox hb;have q:=zM (Kd.R_below (sE p.out) hb);have s:=zM (Kept.below (S:=(fun a=>P1_ a)) (by repeat(first|(with_reducible first|exact HK.out|apply Kept.alloc|apply Kept.drewN|apply Kept.drew)|exact HK.out)) hb);have u:=sB HB hb;have v:=zM (hbox);have x:=zM ((by rw[hg];exact(by first|exact HK.out.1|exact(show Kept w _ (fun a=>P1_ a) from by repeat(first|(with_reducible first|exact HK.out|apply Kept.alloc|apply Kept.drewN|apply Kept.drew)|exact HK.out)).1):w.heap.size≤n));have y:=zM ((by rw[hg];exact(below_size (sH HB.out)):w0.heap.size≤n));clear p;clear HK;clear HB;have p:=q;have HK:=s;have HB:=u;have c:=v;have i:=x;have z:=y;clear q s u v x y;clear hb hbox hg;obtain⟨ap,aq,ar,au,av,aw,ax,ay⟩:=cells4 c.out)))
 go_loopg [1,6] k (fun kq v1 v6 w'=>∃(B:List ByteArray) (l:Int),v6= .int .i64 l∧Aside0 (spec_l11Names.l1 kq B l a0_0 a0_1 a0_2 l0_3=some r)∧Aside0 (kq≤k)∧Aside0 (Kd.R Kd.string 9 w' w0.heap.size (fun a=>(P1_ a∨w.heap.size≤a)) v1 B)∧Aside0 (w'.heap[n]?=some (.cells #[.int .i64 a0_0,.int .i64 a0_1,.string a0_2,(.slice A0_3 l0_3.length c0_3)] 36 (0,0)))∧Aside0 (Kept w w' (fun a=>P1_ a))∧Aside0 (Below w0.heap.size w0 w'))
 case atStart=>exact⟨(l1),(0),sr,H',⟨Nat.le_refl _⟩,⟨by exact sE p.out⟩,⟨by exact sT c.out⟩,⟨by repeat(first|(with_reducible first|exact HK.out|apply Kept.alloc|apply Kept.drewN|apply Kept.drew|refine Kept.setCell ?_ (.inr i.out) _)|exact HK.out)⟩,⟨sb⟩⟩
 case round=>(
 clear H'
 try clear D
 try clear c3b0
 try clear c3b1
 try clear ap
 try clear aq
 try clear ar
 try clear au
 try clear av
 try clear aw
 try clear ax
 try clear ay
 obtain⟨B,l,rfl,HA,E,d,c,HK,HB⟩:=hrel
 cases gk with
 |zero=>exact absurd HA.out (by simp[spec_l11Names.l1])
 |succ k1=>(
 have H:=HA.out
 clear HA
 simp only[spec_l11Names.l1]at H
 by_cases L:l<(l0_3.length:Int)
 ·(
 rw[if_pos L]at H
 have c19b0:=zT L
 clear L
 by_cases W:0≤l
 ·(
 rw[if_pos W]at H
 have c20b0:=zT W
 clear W
 obtain⟨X,az,H⟩:=sO H
 have H':=zM H
 clear H
 obtain⟨bz,bA,bB,bC,bD,bE,bF,bG⟩:=cells4 c.out
 have Y:0≤(l:Int):=zzA
 have Z:l<(l0_3.length:Int):=zzA
 obtain⟨bH,bI,bJ,aX,bK,bL,bM,aY,aK,aM⟩:=at_T36 (Kd.C_kept_now aG.out HK.out) l Y Z
 cases aX
 have aA:=zM (seen_kept (Q:=fun E_ A_=>Kd.C k36 E_ A_ ((rd_T36 l0_3 l).f3).length ((rd_T36 l0_3 l).f3)) (fun E_ aZ=>by obtain⟨bN,bO,bP,j,bQ,bR,bS,a0,bT,a1⟩:=at_T36 (aG.out E_ aZ) l Y Z;injection j with j;subst j;exact⟨_,_,a0,a1⟩) HK.out aY)
 have bU:=zM aM
 have aC:=zM aK
 clear aM aK
 replace Y:=eq_true Y
 replace Z:=eq_true Z
 obtain⟨M,O,a2⟩:=Kd.R_slice d.out
 subst a2
 go_wp2_with (first|(go_at_call 81;(with_reducible refine(ih k1 (by have:=E.out;omega) ((rd_T36 l0_3 l).f0) ((rd_T36 l0_3 l).f1) ((rd_T36 l0_3 l).f2) _ _ ((rd_T36 l0_3 l).f3) (fun a=>some a=(.slice M B.length O:Value).ownBlock) (.slice M B.length O) B X w0 _ ?side1 ?side2 ?side3 ?side4 az.out).mono ?_);(case side1=>repeat(first|(with_reducible first|exact HB.out|apply below_alloc|apply pw_below_drewN|apply below_drew1|refine below_set ?_ z.out)|exact HB.out));(case side2=>exact Kd.C_kept_call aA.out (by repeat(first|(with_reducible first|exact HK.out|apply Kept.alloc|apply Kept.drewN|apply Kept.drew|refine Kept.setCell ?_ (.inr i.out) _)|exact HK.out)) (fun a m=>(fun j=>(d.out.1 a j.symm)) m));(case side3=>exact aC.out);(case side4=>exact Kd.R_tight rfl d.out);rintro e aN ⟨aQ,rfl,F,hb,hkp⟩;replace c:=zM (blk_kept (sT c.out) hkp (fun m=>(fun j=>(Kd.R_ne d.out c.out (by decide)) j) m));have aD:=zM (Kd.R_mono (ok':=fun a=>(P1_ a∨w.heap.size≤a)) F (fun a P=>Or.elim P (fun m=>(d.out.1 a (m).symm)) (fun T=>(.inr (Nat.le_trans (by first|exact HK.out.1|exact(show Kept w _ (fun a=>P1_ a) from by repeat(first|(with_reducible first|exact HK.out|apply Kept.alloc|apply Kept.drewN|apply Kept.drew|refine Kept.setCell ?_ (.inr i.out) _)|exact HK.out)).1) T)))));replace HK:=zM (Kept.then_ (S:=(fun a=>P1_ a)) (by repeat(first|(with_reducible first|exact HK.out|apply Kept.alloc|apply Kept.drewN|apply Kept.drew|refine Kept.setCell ?_ (.inr i.out) _)|exact HK.out)) hkp (fun a m=>(fun j=>(d.out.1 a j.symm)) m));replace HB:=zM (hb);clear d;(try clear hb);(try clear hkp);(try clear F)))
 repeat(go_quiet (first|(go_at_call 81;(with_reducible refine(ih k1 (by have:=E.out;omega) ((rd_T36 l0_3 l).f0) ((rd_T36 l0_3 l).f1) ((rd_T36 l0_3 l).f2) _ _ ((rd_T36 l0_3 l).f3) (fun a=>some a=(.slice M B.length O:Value).ownBlock) (.slice M B.length O) B X w0 _ ?side1 ?side2 ?side3 ?side4 az.out).mono ?_);(case side1=>repeat(first|(with_reducible first|exact HB.out|apply below_alloc|apply pw_below_drewN|apply below_drew1|refine below_set ?_ z.out)|exact HB.out));(case side2=>exact Kd.C_kept_call aA.out (by repeat(first|(with_reducible first|exact HK.out|apply Kept.alloc|apply Kept.drewN|apply Kept.drew|refine Kept.setCell ?_ (.inr i.out) _)|exact HK.out)) (fun a m=>(fun j=>(d.out.1 a j.symm)) m));(case side3=>exact aC.out);(case side4=>exact Kd.R_tight rfl d.out);rintro e aN ⟨aQ,rfl,F,hb,hkp⟩;replace c:=zM (blk_kept (sT c.out) hkp (fun m=>(fun j=>(Kd.R_ne d.out c.out (by decide)) j) m));have aD:=zM (Kd.R_mono (ok':=fun a=>(P1_ a∨w.heap.size≤a)) F (fun a P=>Or.elim P (fun m=>(d.out.1 a (m).symm)) (fun T=>(.inr (Nat.le_trans (by first|exact HK.out.1|exact(show Kept w _ (fun a=>P1_ a) from by repeat(first|(with_reducible first|exact HK.out|apply Kept.alloc|apply Kept.drewN|apply Kept.drew|refine Kept.setCell ?_ (.inr i.out) _)|exact HK.out)).1) T)))));replace HK:=zM (Kept.then_ (S:=(fun a=>P1_ a)) (by repeat(first|(with_reducible first|exact HK.out|apply Kept.alloc|apply Kept.drewN|apply Kept.drew|refine Kept.setCell ?_ (.inr i.out) _)|exact HK.out)) hkp (fun a m=>(fun j=>(d.out.1 a j.symm)) m));replace HB:=zM (hb);clear d;(try clear hb);(try clear hkp);(try clear F)));try go_wp2_with (first|(go_at_call 81;(with_reducible refine(ih k1 (by have:=E.out;omega) ((rd_T36 l0_3 l).f0) ((rd_T36 l0_3 l).f1) ((rd_T36 l0_3 l).f2) _ _ ((rd_T36 l0_3 l).f3) (fun a=>some a=(.slice M B.length O:Value).ownBlock) (.slice M B.length O) B X w0 _ ?side1 ?side2 ?side3 ?side4 az.out).mono ?_);(case side1=>repeat(first|(with_reducible first|exact HB.out|apply below_alloc|apply pw_below_drewN|apply below_drew1|refine below_set ?_ z.out)|exact HB.out));(case side2=>exact Kd.C_kept_call aA.out (by repeat(first|(with_reducible first|exact HK.out|apply Kept.alloc|apply Kept.drewN|apply Kept.drew|refine Kept.setCell ?_ (.inr i.out) _)|exact HK.out)) (fun a m=>(fun j=>(d.out.1 a j.symm)) m));(case side3=>exact aC.out);(case side4=>exact Kd.R_tight rfl d.out);rintro e aN ⟨aQ,rfl,F,hb,hkp⟩;replace c:=zM (blk_kept (sT c.out) hkp (fun m=>(fun j=>(Kd.R_ne d.out c.out (by decide)) j) m));have aD:=zM (Kd.R_mono (ok':=fun a=>(P1_ a∨w.heap.size≤a)) F (fun a P=>Or.elim P (fun m=>(d.out.1 a (m).symm)) (fun T=>(.inr (Nat.le_trans (by first|exact HK.out.1|exact(show Kept w _ (fun a=>P1_ a) from by repeat(first|(with_reducible first|exact HK.out|apply Kept.alloc|apply Kept.drewN|apply Kept.drew|refine Kept.setCell ?_ (.inr i.out) _)|exact HK.out)).1) T)))));replace HK:=zM (Kept.then_ (S:=(fun a=>P1_ a)) (by repeat(first|(with_reducible first|exact HK.out|apply Kept.alloc|apply Kept.drewN|apply Kept.drew|refine Kept.setCell ?_ (.inr i.out) _)|exact HK.out)) hkp (fun a m=>(fun j=>(d.out.1 a j.symm)) m));replace HB:=zM (hb);clear d;(try clear hb);(try clear hkp);(try clear F))))
 go_roundg k1
 case measure=>have:=E.out;omega
 case rel=>exact⟨(X),(wrap64 (l+1)),sr,H',⟨by have:=E.out;omega⟩,⟨by exact sE aD.out⟩,⟨by exact sT c.out⟩,⟨by repeat(first|(with_reducible first|exact HK.out|apply Kept.alloc|apply Kept.drewN|apply Kept.drew|refine Kept.setCell ?_ (.inr i.out) _)|exact HK.out)⟩,⟨sb⟩⟩)
 rw[if_neg W]at H
 exact absurd H (by simp))
 rw[if_neg L]at H
 have c19b0:=zF L
 clear L
 obtain rfl:=zI H
 obtain⟨bV,bW,bX,bY,bZ,b0,b1,b2⟩:=cells4 c.out
 go_wp2
 repeat(go_quiet (fail);try go_wp2)
 go_ret
 exact⟨_,sq,by exact sE d.out,by repeat(first|(with_reducible first|exact HB.out|apply below_alloc|apply pw_below_drewN|apply below_drew1|refine below_set ?_ z.out)|exact HB.out),by repeat(first|(with_reducible first|exact HK.out|apply Kept.alloc|apply Kept.drewN|apply Kept.drew|refine Kept.setCell ?_ (.inr i.out) _)|exact HK.out)⟩))
end Go.Proofs.Ytdihlgkcpooadaa.PFnExactIsPure
