/- Printed functions: spec_l07OwnValues, spec_l00Put. -/
import Derived.Test.YtengilknjiobiaaYRoP0
import Derived.Test.YtengilknjiobiaaYRoPE
namespace Go.Proofs.Ytengilknjiobiaa.PFnExactRefsOf
open Go.RowKit Go.Proofs.YtengilknjiobiaaG Go.Proofs.YtengilknjiobiaaW.PrintWords Go.Proofs.YtengilknjiobiaaW.PrintLast Go.Proofs.YtengilknjiobiaaW.PrintMore
attribute [local go_sem] max2_int min2_int max_two min_two max_three min_three max_four min_four
set_option linter.unusedVariables false
set_option linter.unusedSimpArgs false
section
attribute [local go_sem high] eqA29
def spec_l07OwnValues.f (l0:List (S29)):Option ((List (S29))):=(some (([]:List (S29)):List (S29))).bind fun y169=>(if y169.length+l0.length<3518437208883 then(some (y169++l0))else(none))
set_option maxHeartbeats 8000000 in
set_option maxRecDepth 100000 in
theorem spec_l07OwnValues.calls (A0:Option Addr) (c0:Nat) (l0:List (S29)) (r:List (S29)) (w:World) (hr0:Kd.C k29 w A0 l0.length l0) (hc0:l0.length≤c0) (h:spec_l07OwnValues.f l0=some r):
  Calls Try.prog 62 #[.slice A0 l0.length c0] w fun e w'=>∃j:Value,e= .returned (j)∧Kd.R k29 29 w' w.heap.size (fun _=>True) j r∧Below w.heap.size w w':=by
 have n:=zM hr0
 have v:=zM hc0
 clear hr0 hc0
 have HB:=zM (Below.refl w.heap.size w)
 have H:((some (([]:List (S29)):List (S29))).bind fun a=>(if a.length+l0.length<3518437208883 then(some (a++l0))else(none)))=some r:=h
 clear h
 obtain⟨a,hy169⟩:∃i:List (S29),i=(([]:List (S29))):=⟨_,rfl⟩
 replace H:(if a.length+l0.length<3518437208883 then(some (a++l0))else(none))=some r:=by first|(rw[hy169];with_reducible exact H)|(have c:=(Option.bind_some _ _).symm.trans H;rw[hy169];with_reducible exact c)|(have c:=(Option.bind_some _ _).symm.trans H;with_reducible exact c)|with_reducible exact H|(rw[hy169];exact H)|exact H
 have l:=zM hy169
 clear hy169
 by_cases g:a.length+l0.length<3518437208883
 ·(
 rw[if_pos g]at H
 have o:=zM g
 clear g
 obtain⟨y172,hy172⟩:∃i:List (S29),i=(a++l0):=⟨_,rfl⟩
 replace H:(some y172)=some r:=by first|(rw[hy172];with_reducible exact H)|(have c:=(Option.bind_some _ _).symm.trans H;rw[hy172];with_reducible exact c)|(have c:=(Option.bind_some _ _).symm.trans H;with_reducible exact c)|with_reducible exact H|(rw[hy172];exact H)|exact H
 have p:=zM hy172
 clear hy172
 obtain rfl:=zI H
 go_enter Try.func62,Try.ntmps62
 go_wp2_with (first|((with_reducible refine gate_dst (N:=3) rfl ?_);refine Kd.R_lit k29 _ 29 ?hg (N:=3) ?hd (xs:=([]:List (S29))) (inner:=[]) (ok:=fun _=>True) (okp:=fun _=>True) ?hr ?hp (fun _ hk=>hk) trivial (Below.refl _ _) (Nat.le_refl _) (by simp) ?_;(case hd=>rfl);(case hg=>rfl);(case hr=>first|(go_simp;done)|(go_simp;rfl));(case hp=>exact(Reps.none _ _));intro q x d hb s t;clear s t;(first|rw[←l.out]at d|(simp only[Int.reduceToNat]at d;rw[←l.out]at d));have m:=zM (Kd.R_lower d (below_size (sH HB.out)));replace HB:=sB HB hb;clear hb d)|((with_reducible refine gate_builtin (b:= .append) (xs:= #[.tmp 3,.tmp 4]) rfl ?_);at_builtin;refine Kd.R_append_rows k29 (w0:=w) w.heap.size rfl (.tmp 3) (.tmp 4) 43 29 (.agg #[(.int .i64 0),(.int .i64 0),(.string ⟨#[]⟩),(.int .i64 0)]) 40 rfl Try.underlying43 info29 rfl (by decide) (by omega) q a l0 _ _ _ (fun _=>True) (fun _=>False) rfl rfl ?aO ?aR (fun _ _ h=>h) (fun _ h=>h.elim) ?aF ?aB ?aS ?aL ?_;(case aR=>exact sD (zC n.out HB.out));(case aB=>exact(sH HB.out));(case aF=>exact(fun _ _=>trivial));(case aO=>exact(sE m.out));(case aS=>exact(below_size (sH HB.out)));(case aL=>have:=o.out;omega);intro y z ho hb hg hat;rw[←p.out]at ho;replace HB:=zM (hb);have u:=zM (ho);clear m;clear ho hb hg hat))
 go_ret
 exact⟨_,sq,by exact sE u.out,sb⟩)
 rw[if_neg g]at H
 exact absurd H (by simp)
end
mutual
def spec_l00Put.l0 : Nat → List Int → Int → List Int → Bool → Int → Option (List Int)
 |0,_,_,_,_,_=>none
 |k+1,x0,x1,x5,x6,x7=>if x7<(x0.length:Int)then(if x6=true then(spec_l00Put.j1 k x0 x1 x5 x6 x7 false)else(if 0≤x7 then(spec_l00Put.j1 k x0 x1 x5 x6 x7 (decide ((rd x0 x7)≥x1)))else(none)))else(if x6=true then(some x5)else(if x5.length<17592186044416 then(some (x5++[x1]))else(none)))
def spec_l00Put.j1 : Nat → List Int → Int → List Int → Bool → Int → Bool → Option (List Int)
 |0,_,_,_,_,_,_=>none
 |k+1,x0,x1,x5,x6,x7,x24=>if x24=true then(if 0≤x7 then(if x7<(x0.length:Int)then(if(rd x0 x7)>x1 then(if x5.length<17592186044416 then((some (x5++[x1]:List Int)).bind fun y185=>(if y185.length<17592186044416 then(spec_l00Put.l0 k x0 x1 (y185++[rd x0 x7]) true (wrap64 (x7+1)))else(none)))else(none))else(if x5.length<17592186044416 then(spec_l00Put.l0 k x0 x1 (x5++[rd x0 x7]) true (wrap64 (x7+1)))else(none)))else(none))else(none))else(if 0≤x7 then(if x7<(x0.length:Int)then(if x5.length<17592186044416 then(spec_l00Put.l0 k x0 x1 (x5++[rd x0 x7]) x6 (wrap64 (x7+1)))else(none))else(none))else(none))
end
def spec_l00Put.f (k:Nat) (l0:List Int) (a1:Int):Option (List Int):=spec_l00Put.l0 k l0 a1 (([]:List Int)) false 0
set_option maxHeartbeats 8000000 in
set_option maxRecDepth 100000 in
theorem spec_l00Put.calls (k:Nat) (A0:Option Addr) (c0:Nat) (l0:List Int) (a1:Int) (r:List Int) (w:World) (hr0:Kd.C (Kd.int .i64) w A0 l0.length l0) (hc0:l0.length≤c0) (h:spec_l00Put.f k l0 a1=some r):
  Calls Try.prog 63 #[.slice A0 l0.length c0,.int .i64 a1] w fun e w'=>∃Z:Value,e= .returned (Z)∧Kd.R (Kd.int .i64) 2 w' w.heap.size (fun _=>True) Z r∧Below w.heap.size w w':=by
 have p:=zM hr0
 have aH:=zM hc0
 clear hr0 hc0
 have HB:=zM (Below.refl w.heap.size w)
 have H:(spec_l00Put.l0 k l0 a1 (([]:List Int)) false 0)=some r:=h
 clear h
 obtain⟨y177,hy177⟩:∃i:List Int,i=(([]:List Int)):=⟨_,rfl⟩
 replace H:(spec_l00Put.l0 k l0 a1 y177 false 0)=some r:=by first|(rw[hy177];with_reducible exact H)|(have c:=(Option.bind_some _ _).symm.trans H;rw[hy177];with_reducible exact c)|(have c:=(Option.bind_some _ _).symm.trans H;with_reducible exact c)|with_reducible exact H|(rw[hy177];exact H)|exact H
 have aa:=zM hy177
 clear hy177
 have H':=zM H
 clear H
 go_enter Try.func63,Try.ntmps63
 go_wp2_with (first|((with_reducible refine gate_dst (N:=8) rfl ?_);refine Kd.R_lit (Kd.int .i64) _ 2 ?hg (N:=8) ?hd (xs:=([]:List Int)) (inner:=[]) (ok:=fun _=>True) (okp:=fun _=>True) ?hr ?hp (fun _ hk=>hk) trivial (Below.refl _ _) (Nat.le_refl _) (by simp) ?_;(case hd=>rfl);(case hg=>rfl);(case hr=>first|(go_simp;done)|(go_simp;rfl));(case hp=>exact(Reps.none _ _));intro aI w3 t hb ag ah;clear ag ah;(first|rw[←aa.out]at t|(simp only[Int.reduceToNat]at t;rw[←aa.out]at t));have ai:=zM (Kd.R_lower t (below_size (sH HB.out)));replace HB:=sB HB hb;clear hb t))
 go_loopg [5,6,7] k (fun kq v5 v6 v7 w'=>∃(d:List Int) (j:Bool) (a:Int),v6= .bool j∧v7= .int .i64 a∧Aside0 (spec_l00Put.l0 kq l0 a1 d j a=some r)∧Aside0 (kq≤k)∧Aside0 (Kd.R (Kd.int .i64) 2 w' w.heap.size (fun _=>True) v5 d)∧Aside0 (Below w.heap.size w w'))
 case atStart=>exact⟨(y177),(false),(0),sr,sr,H',⟨Nat.le_refl _⟩,⟨by exact sE ai.out⟩,⟨sb⟩⟩
 case round=>(
 clear H'
 obtain⟨d,j,a,rfl,rfl,HA,l,g,HB⟩:=hrel
 cases gk with
 |zero=>exact absurd HA.out (by simp[spec_l00Put.l0])
 |succ k1=>(
 have H:=HA.out
 clear HA
 simp only[spec_l00Put.l0]at H
 by_cases m:a<(l0.length:Int)
 ·(
 rw[if_pos m]at H
 have c5b0:=zT m
 clear m
 have M:=zM H
 clear H
 go_upto_region 6 with(fail)
 go_cut [24] (fun aj wc=>∃(kq:Nat) (v:Bool),aj= .bool v∧Aside0 (spec_l00Put.j1 kq l0 a1 d j a v=some r)∧Aside0 (kq≤k1)∧Aside0 (Kd.R (Kd.int .i64) 2 wc w.heap.size (fun _=>True) u5 d)∧Aside0 (Below w.heap.size w wc))
 case first=>(
 have H:=M.out
 clear M
 by_cases x:j=true
 ·(
 subst x
 rewrite[if_pos rfl]at H
 have H':=zM H
 clear H
 go_wp2
 go_meet
 case rel=>exact⟨_,(false),sr,H',⟨by have:=l.out;first|omega|exact Nat.le_refl _⟩,⟨by exact sE g.out⟩,⟨sb⟩⟩)
 replace x:=zB x
 subst x
 rewrite[if_neg zQ]at H
 by_cases y:0≤a
 ·(
 rw[if_pos y]at H
 have c8b0:=zT y
 clear y
 (first|rw[c8b0]|(simp only[i64_w,i32_w];rw[c8b0])|rw[c8b2]|skip)
 have H':=zM H
 clear H
 have O:0≤(a:Int):=zzA
 have P:a<(l0.length:Int):=zzA
 obtain⟨aJ,ak,ab⟩:=Kd.at_int p.out a O P
 cases ak
 replace ab:=sX HB ab
 replace O:=eq_true O
 replace P:=eq_true P
 go_wp2
 go_meet
 case rel=>exact⟨_,(decide ((rd l0 a)≥a1)),sr,H',⟨by have:=l.out;first|omega|exact Nat.le_refl _⟩,⟨by exact sE g.out⟩,⟨sb⟩⟩)
 rw[if_neg y]at H
 exact absurd H (by simp))
 case rest=>(
 clear M
 try clear m
 try clear c5b0
 obtain⟨kq,v,rfl,HA,q,g,HB⟩:=hcut
 cases kq with
 |zero=>exact absurd HA.out (by simp[spec_l00Put.j1])
 |succ kj5=>(
 have H:=HA.out
 clear HA
 simp only[spec_l00Put.j1]at H
 by_cases z:v=true
 ·(
 subst z
 rewrite[if_pos rfl]at H
 by_cases A:0≤a
 ·(
 rw[if_pos A]at H
 have c10b0:=zT A
 clear A
 by_cases B:a<(l0.length:Int)
 ·(
 rw[if_pos B]at H
 have c11b0:=zT B
 clear B
 by_cases s:(rd l0 a)>a1
 ·(
 rw[if_pos s]at H
 have c12b0:decide (a1<(rd l0 a))=true:=zT s
 clear s
 by_cases D:d.length<17592186044416
 ·(
 rw[if_pos D]at H
 have al:=zM D
 clear D
 obtain⟨y185,hy185⟩:∃i:List Int,i=(d++[a1]):=⟨_,rfl⟩
 replace H:(if y185.length<17592186044416 then(spec_l00Put.l0 kj5 l0 a1 (y185++[rd l0 a]) true (wrap64 (a+1)))else(none))=some r:=by first|(rw[hy185];with_reducible exact H)|(have c:=(Option.bind_some _ _).symm.trans H;rw[hy185];with_reducible exact c)|(have c:=(Option.bind_some _ _).symm.trans H;with_reducible exact c)|with_reducible exact H|(rw[hy185];exact H)|exact H
 have am:=zM hy185
 clear hy185
 by_cases E:y185.length<17592186044416
 ·(
 rw[if_pos E]at H
 have an:=zM E
 clear E
 obtain⟨y189,hy189⟩:∃i:List Int,i=(y185++[rd l0 a]):=⟨_,rfl⟩
 replace H:(spec_l00Put.l0 kj5 l0 a1 y189 true (wrap64 (a+1)))=some r:=by first|(rw[hy189];with_reducible exact H)|(have c:=(Option.bind_some _ _).symm.trans H;rw[hy189];with_reducible exact c)|(have c:=(Option.bind_some _ _).symm.trans H;with_reducible exact c)|with_reducible exact H|(rw[hy189];exact H)|exact H
 have ao:=zM hy189
 clear hy189
 have H':=zM H
 clear H
 have n:0≤(a:Int):=zzA
 have o:a<(l0.length:Int):=zzA
 obtain⟨Q,S,u⟩:=Kd.at_int p.out a n o
 cases S
 replace u:=sX HB u
 replace n:=eq_true n
 replace o:=eq_true o
 go_wp2_with (first|((with_reducible refine gate_builtin (b:= .append) (xs:= #[.tmp 31,.tmp 33]) rfl ?_);at_builtin;refine Kd.R_append (Kd.int .i64) (w0:=w) w.heap.size rfl (.tmp 31) (.tmp 33) 53 2 (.int .i64 0) 8 rfl Try.underlying53 info2 rfl (by decide) (by omega) u5 d a1 [.int .i64 a1] (fun _=>True) (fun _=>False) rfl rfl ?aP (fun _ hk=>hk.elim) ?aF ?aO ?aB ?aS ?aL ?_;(case aP=>exact rfl);(case aB=>exact(sH HB.out));(case aF=>exact(fun _ _=>trivial));(case aO=>exact(sE g.out));(case aS=>exact(below_size (sH HB.out)));(case aL=>have:=al.out;omega);intro ap aK ho hb hg hat;rw[←am.out]at ho;replace HB:=zM (hb);have ac:=zM (ho);clear g;clear ho hb hg hat;have T:0≤(a:Int):=zzA;have U:a<(l0.length:Int):=zzA;obtain⟨ad188,aq,ad⟩:=Kd.at_int p.out a T U;obtain rfl:Q=ad188:=(by injection aq);replace ad:=sX HB ad;replace T:=eq_true T;replace U:=eq_true U)|((with_reducible refine gate_builtin (b:= .append) (xs:= #[.tmp 35,.tmp 40]) rfl ?_);at_builtin;refine Kd.R_append (Kd.int .i64) (w0:=w) w.heap.size rfl (.tmp 35) (.tmp 40) 53 2 (.int .i64 0) 8 rfl Try.underlying53 info2 rfl (by decide) (by omega) ap y185 (rd l0 a) [.int .i64 (rd l0 a)] (fun _=>True) (fun _=>False) rfl rfl ?aP (fun _ hk=>hk.elim) ?aF ?aO ?aB ?aS ?aL ?_;(case aP=>exact rfl);(case aB=>exact(sH HB.out));(case aF=>exact(fun _ _=>trivial));(case aO=>exact(sE ac.out));(case aS=>exact(below_size (sH HB.out)));(case aL=>have:=an.out;omega);intro aM aN ho hb hg hat;rw[←ao.out]at ho;replace HB:=zM (hb);have ar:=zM (ho);clear ac;clear ho hb hg hat))
 go_roundg kj5
 case measure=>have:=l.out;have:=q.out;omega
 case rel=>exact⟨(y189),(true),(wrap64 (a+1)),sr,sr,H',⟨by have:=l.out;have:=q.out;omega⟩,⟨by exact sE ar.out⟩,⟨sb⟩⟩)
 rw[if_neg E]at H
 exact absurd H (by simp))
 rw[if_neg D]at H
 exact absurd H (by simp))
 rw[if_neg s]at H
 have c12b0:decide (a1<(rd l0 a))=false:=zF s
 clear s
 by_cases F:d.length<17592186044416
 ·(
 rw[if_pos F]at H
 have au:=zM F
 clear F
 obtain⟨y193,hy193⟩:∃i:List Int,i=(d++[rd l0 a]):=⟨_,rfl⟩
 replace H:(spec_l00Put.l0 kj5 l0 a1 y193 true (wrap64 (a+1)))=some r:=by first|(rw[hy193];with_reducible exact H)|(have c:=(Option.bind_some _ _).symm.trans H;rw[hy193];with_reducible exact c)|(have c:=(Option.bind_some _ _).symm.trans H;with_reducible exact c)|with_reducible exact H|(rw[hy193];exact H)|exact H
 have av:=zM hy193
 clear hy193
 have H':=zM H
 clear H
 have n:0≤(a:Int):=zzA
 have o:a<(l0.length:Int):=zzA
 obtain⟨Q,S,u⟩:=Kd.at_int p.out a n o
 cases S
 replace u:=sX HB u
 replace n:=eq_true n
 replace o:=eq_true o
 have V:0≤(a:Int):=zzA
 have W:a<(l0.length:Int):=zzA
 obtain⟨ad192,aw,ae⟩:=Kd.at_int p.out a V W
 obtain rfl:Q=ad192:=(by injection aw)
 replace ae:=sX HB ae
 replace V:=eq_true V
 replace W:=eq_true W
 go_wp2_with (first|((with_reducible refine gate_builtin (b:= .append) (xs:= #[.tmp 35,.tmp 40]) rfl ?_);at_builtin;refine Kd.R_append (Kd.int .i64) (w0:=w) w.heap.size rfl (.tmp 35) (.tmp 40) 53 2 (.int .i64 0) 8 rfl Try.underlying53 info2 rfl (by decide) (by omega) u5 d (rd l0 a) [.int .i64 (rd l0 a)] (fun _=>True) (fun _=>False) rfl rfl ?aP (fun _ hk=>hk.elim) ?aF ?aO ?aB ?aS ?aL ?_;(case aP=>exact rfl);(case aB=>exact(sH HB.out));(case aF=>exact(fun _ _=>trivial));(case aO=>exact(sE g.out));(case aS=>exact(below_size (sH HB.out)));(case aL=>have:=au.out;omega);intro aQ aT ho hb hg hat;rw[←av.out]at ho;replace HB:=zM (hb);have ax:=zM (ho);clear g;clear ho hb hg hat))
 go_roundg kj5
 case measure=>have:=l.out;have:=q.out;omega
 case rel=>exact⟨(y193),(true),(wrap64 (a+1)),sr,sr,H',⟨by have:=l.out;have:=q.out;omega⟩,⟨by exact sE ax.out⟩,⟨sb⟩⟩)
 rw[if_neg F]at H
 exact absurd H (by simp))
 rw[if_neg B]at H
 exact absurd H (by simp))
 rw[if_neg A]at H
 exact absurd H (by simp))
 replace z:=zB z
 subst z
 rewrite[if_neg zQ]at H
 by_cases G:0≤a
 ·(
 rw[if_pos G]at H
 have c19b0:=zT G
 clear G
 by_cases I:a<(l0.length:Int)
 ·(
 rw[if_pos I]at H
 have c20b0:=zT I
 clear I
 by_cases J:d.length<17592186044416
 ·(
 rw[if_pos J]at H
 have ay:=zM J
 clear J
 obtain⟨y197,hy197⟩:∃i:List Int,i=(d++[rd l0 a]):=⟨_,rfl⟩
 replace H:(spec_l00Put.l0 kj5 l0 a1 y197 j (wrap64 (a+1)))=some r:=by first|(rw[hy197];with_reducible exact H)|(have c:=(Option.bind_some _ _).symm.trans H;rw[hy197];with_reducible exact c)|(have c:=(Option.bind_some _ _).symm.trans H;with_reducible exact c)|with_reducible exact H|(rw[hy197];exact H)|exact H
 have az:=zM hy197
 clear hy197
 have H':=zM H
 clear H
 have X:0≤(a:Int):=zzA
 have Y:a<(l0.length:Int):=zzA
 obtain⟨aU,aA,af⟩:=Kd.at_int p.out a X Y
 cases aA
 replace af:=sX HB af
 replace X:=eq_true X
 replace Y:=eq_true Y
 go_wp2_with (first|((with_reducible refine gate_builtin (b:= .append) (xs:= #[.tmp 35,.tmp 40]) rfl ?_);at_builtin;refine Kd.R_append (Kd.int .i64) (w0:=w) w.heap.size rfl (.tmp 35) (.tmp 40) 53 2 (.int .i64 0) 8 rfl Try.underlying53 info2 rfl (by decide) (by omega) u5 d (rd l0 a) [.int .i64 (rd l0 a)] (fun _=>True) (fun _=>False) rfl rfl ?aP (fun _ hk=>hk.elim) ?aF ?aO ?aB ?aS ?aL ?_;(case aP=>exact rfl);(case aB=>exact(sH HB.out));(case aF=>exact(fun _ _=>trivial));(case aO=>exact(sE g.out));(case aS=>exact(below_size (sH HB.out)));(case aL=>have:=ay.out;omega);intro aV aW ho hb hg hat;rw[←az.out]at ho;replace HB:=zM (hb);have aC:=zM (ho);clear g;clear ho hb hg hat))
 go_roundg kj5
 case measure=>have:=l.out;have:=q.out;omega
 case rel=>exact⟨(y197),(j),(wrap64 (a+1)),sr,sr,H',⟨by have:=l.out;have:=q.out;omega⟩,⟨by exact sE aC.out⟩,⟨sb⟩⟩)
 rw[if_neg J]at H
 exact absurd H (by simp))
 rw[if_neg I]at H
 exact absurd H (by simp))
 rw[if_neg G]at H
 exact absurd H (by simp))))
 rw[if_neg m]at H
 have c5b0:=zF m
 clear m
 by_cases K:j=true
 ·(
 subst K
 rewrite[if_pos rfl]at H
 obtain rfl:=zI H
 go_wp2
 go_ret
 exact⟨_,sq,by exact sE g.out,sb⟩)
 replace K:=zB K
 subst K
 rewrite[if_neg zQ]at H
 by_cases L:d.length<17592186044416
 ·(
 rw[if_pos L]at H
 have aD:=zM L
 clear L
 obtain⟨y180,hy180⟩:∃i:List Int,i=(d++[a1]):=⟨_,rfl⟩
 replace H:(some y180)=some r:=by first|(rw[hy180];with_reducible exact H)|(have c:=(Option.bind_some _ _).symm.trans H;rw[hy180];with_reducible exact c)|(have c:=(Option.bind_some _ _).symm.trans H;with_reducible exact c)|with_reducible exact H|(rw[hy180];exact H)|exact H
 have aE:=zM hy180
 clear hy180
 obtain rfl:=zI H
 go_wp2_with (first|((with_reducible refine gate_builtin (b:= .append) (xs:= #[.tmp 44,.tmp 46]) rfl ?_);at_builtin;refine Kd.R_append (Kd.int .i64) (w0:=w) w.heap.size rfl (.tmp 44) (.tmp 46) 53 2 (.int .i64 0) 8 rfl Try.underlying53 info2 rfl (by decide) (by omega) u5 d a1 [.int .i64 a1] (fun _=>True) (fun _=>False) rfl rfl ?aP (fun _ hk=>hk.elim) ?aF ?aO ?aB ?aS ?aL ?_;(case aP=>exact rfl);(case aB=>exact(sH HB.out));(case aF=>exact(fun _ _=>trivial));(case aO=>exact(sE g.out));(case aS=>exact(below_size (sH HB.out)));(case aL=>have:=aD.out;omega);intro aX aY ho hb hg hat;rw[←aE.out]at ho;replace HB:=zM (hb);have aG:=zM (ho);clear g;clear ho hb hg hat))
 go_ret
 exact⟨_,sq,by exact sE aG.out,sb⟩)
 rw[if_neg L]at H
 exact absurd H (by simp)))
end Go.Proofs.Ytengilknjiobiaa.PFnExactRefsOf
