/- Printed functions: spec_l08Trace. -/
import Derived.Test.YtpdljgieaaicpaaYGbP0
import Derived.Test.YtpdljgieaaicpaaYGbP9
import Derived.Test.YtpdljgieaaicpaaYGbP13
namespace Go.Proofs.Ytpdljgieaaicpaa.PFnExactGarbage
open Go.RowKit Go.Proofs.YtpdljgieaaicpaaG Go.Proofs.YtpdljgieaaicpaaW.PrintWords Go.Proofs.YtpdljgieaaicpaaW.PrintLast Go.Proofs.YtpdljgieaaicpaaW.PrintMore
attribute [local go_sem] max2_int min2_int max_two min_two max_three min_three max_four min_four
set_option linter.unusedVariables false
set_option linter.unusedSimpArgs false
theorem spec_l08Trace.at_alloc {α:Type} (d:Kd α) (e:Nat) (W:World) (xs:List α) (inner:List Value) (hrep:Reps (d.M W W.heap.size (fun _=>True)) d.sz xs inner) (hm:xs.length≤9223372036854775807):d.R e (W.alloc (.cells inner.toArray e)) W.heap.size (fun _=>True) (.slice (some ⟨W.heap.size,0,none⟩) xs.length xs.length) xs:=by
 refine⟨fun _ _=>trivial,inner,?_,?_⟩
 ·(
 have g:=World.ownsRow_lit (base:=W.heap.size) (e:=e) (size:=d.sz) W inner.toArray xs.length (Nat.le_refl _) (by simpa[maxLen]using hm) (by simpa using hrep.1)
 simpa using g)
 ·(
 refine hrep.imp_ (fun p c hp=>d.M_mono (fun k hk=>⟨trivial,fun he=>?_⟩) (Kd.M_below (d.M_bound hp) (below_alloc (Below.refl _ _) _)))
 have j:k=W.heap.size:=by simpa[Value.ownBlock]using he
 have:=hk.2.2.1
 omega)
theorem spec_l08Trace.two_reps (W:World) (a b:S62):Reps (k62.M W W.heap.size (fun _=>True)) k62.sz [a,b] [.int .i64 a.f0,.int .i64 a.f1,.string a.f2,.int .i64 a.f3,.int .i64 b.f0,.int .i64 b.f1,.string b.f2,.int .i64 b.f3]:=
  Reps.c4 (show Kd.M k62 _ _ _ a [.int .i64 a.f0,.int .i64 a.f1,.string a.f2,.int .i64 a.f3] from k62_mkM _ _ _ a) (Reps.c4 (show Kd.M k62 _ _ _ b [.int .i64 b.f0,.int .i64 b.f1,.string b.f2,.int .i64 b.f3] from k62_mkM _ _ _ b) (Reps.none _ _))
theorem spec_l08Trace.one_reps (W:World) (a:S62):Reps (k62.M W W.heap.size (fun _=>True)) k62.sz [a] [.int .i64 a.f0,.int .i64 a.f1,.string a.f2,.int .i64 a.f3]:=
  Reps.c4 (show Kd.M k62 _ _ _ a [.int .i64 a.f0,.int .i64 a.f1,.string a.f2,.int .i64 a.f3] from k62_mkM _ _ _ a) (Reps.none _ _)
def spec_l08Trace.c0 : Nat → List S62 → List S62 → List S62 → Int → Option (List S62)
 |0,_,_,_,_=>none
 |k+1,acc,ks,vs,i=>if i<(ks.length:Int)then(if 0≤i then(if i<(vs.length:Int)then(if acc.length+2<3518437208883 then spec_l08Trace.c0 k (acc++[rd_T62 ks i,rd_T62 vs i]) ks vs (wrap64 (i+1))else none)else none)else none)else some acc
def spec_l08Trace.cf (k:Nat) (l0:List S64):Option (List S62):=if 0<(l0.length:Int)then(if(rd_T64 l0 0).f1=2 then((spec_l08Trace.c0 k [] (rd_T64 l0 0).f4 (rd_T64 l0 0).f5 0).bind fun acc=>if acc.length+1<3518437208883 then some (acc++[(rd_T64 l0 0).f6])else none)else some (rd_T64 l0 0).f5)else none
set_option maxHeartbeats 8000000 in
set_option maxRecDepth 100000 in
theorem spec_l08Trace.ccalls (k:Nat) (A0:Option Addr) (l0:List S64) (r:List S62) (w0 w:World) (hB:Below w0.heap.size w0 w) (hr0:Kd.C k64 w0 A0 l0.length l0) (h:spec_l08Trace.cf k l0=some r):
  Calls Try.prog 67 #[.pointer A0] w fun e w'=>∃(A:Option Addr) (c:Nat),e= .returned (.slice A r.length c)∧r.length≤c∧Below w.heap.size w w'∧∀(W_:World) (S:Nat→Prop),(∀g,S g→w0.heap.size≤g∧g<w.heap.size)→Kept w' W_ S→Kd.C k62 W_ A r.length r:=by
 have an:=Try.underlying64
 have ao:=Try.underlying62
 have hl:0<(l0.length:Int):=by(
 unfold spec_l08Trace.cf at h
 split at h
 ·assumption
 ·cases h)
 unfold spec_l08Trace.cf at h
 rw[if_pos hl]at h
 obtain⟨ad,A4,q,A5,c5,e0,ac,n,ae,af,j,l,v,z,B,D,J,K,G,I⟩:=at_T64 hr0 0 (Int.le_refl 0) hl
 cases e0
 rw[sZ]at ac n ae af j l v z B D
 have m:=zM hB
 replace n:=sX m n
 replace j:=sX m j
 replace l:=sX m l
 replace v:=sX m v
 replace z:=sX m z
 replace B:=sX m B
 replace D:=sX m D
 clear ac ae af
 by_cases hk:(rd_T64 l0 0).f1=2
 ·(
 rw[if_pos hk]at h
 have hkb:((rd_T64 l0 0).f1 !=2)=false:=zY hk
 obtain⟨acc,H,h⟩:=Option.bind_eq_some_iff.mp h
 have hacc:acc.length+1<3518437208883:=by(
 split at h
 ·assumption
 ·cases h)
 rw[if_pos hacc]at h
 obtain rfl:=zI h
 have ah:=zM (zC K hB)
 have ai:=zM (zC I hB)
 have ap:=zM J
 have aq:=zM G
 have H':=zM H
 have HM:=zM hacc
 have HB:=zM (Below.refl w.heap.size w)
 clear h K I J G hr0 hB hl hk H hacc
 generalize hks:(rd_T64 l0 0).f4=ks at *
 generalize hvs:(rd_T64 l0 0).f5=vs at *
 go_enter Try.func67,Try.ntmps67
 go_wp2_with (first|((with_reducible refine gate_dst (N:=14) rfl ?_);refine Kd.R_lit k62 _ 62 ?hg (N:=14) ?hd (xs:=([]:List S62)) (inner:=[]) (ok:=fun _=>True) (okp:=fun _=>True) ?hr ?hp (fun _ hk=>hk) trivial (Below.refl _ _) (Nat.le_refl _) (by simp) ?_;(case hd=>rfl);(case hg=>rfl);(case hr=>first|(go_simp;done)|(go_simp;rfl));(case hp=>exact(Reps.none _ _));intro ar au ho hb L O;clear L O;have HO:=zM ho;replace HB:=sB HB hb;clear ho hb))
 go_loopg [3,4] k (fun kq v3 v4 w'=>∃(x:List S62) (i:Int),v4= .int .i64 i∧Aside0 (spec_l08Trace.c0 kq x ks vs i=some acc)∧Aside0 (kq≤k)∧Aside0 (Kd.R k62 62 w' w.heap.size (fun _=>True) v3 x)∧Aside0 (Below w.heap.size w w'))
 case atStart=>exact⟨[],0,sr,H',⟨Nat.le_refl _⟩,⟨by exact sE HO.out⟩,⟨sb⟩⟩
 case round=>(
 clear H' HO
 obtain⟨x,i,rfl,HA,ag,HO,HB⟩:=hrel
 cases gk with
 |zero=>exact absurd HA.out (by simp[spec_l08Trace.c0])
 |succ k1=>(
 have H:=HA.out
 clear HA
 simp only[spec_l08Trace.c0]at H
 by_cases o:i<(ks.length:Int)
 ·(
 rw[if_pos o]at H
 by_cases u:0≤i
 ·(
 rw[if_pos u]at H
 by_cases E:i<(vs.length:Int)
 ·(
 rw[if_pos E]at H
 by_cases q:x.length+2<3518437208883
 ·(
 rw[if_pos q]at H
 obtain⟨ada,ea,P,Q,T,U⟩:=at_T62 ah.out i u o
 obtain⟨adb,eb,V,X,Y,Z⟩:=at_T62 ai.out i u E
 cases ea
 cases eb
 have c1b:decide (i<(ks.length:Int))=true:=zT o
 have LM:=zM q
 replace o:=eq_true o
 replace u:=eq_true u
 replace E:=eq_true E
 have H':=zM H
 clear H q
 obtain⟨Ao,co,eo⟩:=Kd.R_slice HO.out
 subst eo
 have y:=zM (And.intro j (And.intro l (And.intro P (And.intro Q (And.intro T (And.intro U (And.intro V (And.intro X (And.intro Y Z)))))))))
 replace n:=sX HB n
 replace j:=sX HB j
 replace l:=sX HB l
 replace P:=sX HB P
 replace Q:=sX HB Q
 replace T:=sX HB T
 replace U:=sX HB U
 replace V:=sX HB V
 replace X:=sX HB X
 replace Y:=sX HB Y
 replace Z:=sX HB Z
 go_wp2
 go_region_held3 (fun W=>W.cell? ⟨ad.block,ad.off+4,none⟩=some (.slice (some ada) ks.length q)∧W.cell? ⟨ad.block,ad.off+5,none⟩=some (.slice (some adb) vs.length c5)∧W.cell? (ada.add (i.toNat*4))=some (.int .i64 (rd_T62 ks i).f0)∧W.cell? ⟨(ada.add (i.toNat*4)).block,(ada.add (i.toNat*4)).off+1,none⟩=some (.int .i64 (rd_T62 ks i).f1)∧W.cell? ⟨(ada.add (i.toNat*4)).block,(ada.add (i.toNat*4)).off+2,none⟩=some (.string (rd_T62 ks i).f2)∧W.cell? ⟨(ada.add (i.toNat*4)).block,(ada.add (i.toNat*4)).off+3,none⟩=some (.int .i64 (rd_T62 ks i).f3)∧W.cell? (adb.add (i.toNat*4))=some (.int .i64 (rd_T62 vs i).f0)∧W.cell? ⟨(adb.add (i.toNat*4)).block,(adb.add (i.toNat*4)).off+1,none⟩=some (.int .i64 (rd_T62 vs i).f1)∧W.cell? ⟨(adb.add (i.toNat*4)).block,(adb.add (i.toNat*4)).off+2,none⟩=some (.string (rd_T62 vs i).f2)∧W.cell? ⟨(adb.add (i.toNat*4)).block,(adb.add (i.toNat*4)).off+3,none⟩=some (.int .i64 (rd_T62 vs i).f3)) (first|go_keep|exact⟨sX HB y.out.1,sX HB y.out.2.1,sX HB y.out.2.2.1,sX HB y.out.2.2.2.1,sX HB y.out.2.2.2.2.1,sX HB y.out.2.2.2.2.2.1,sX HB y.out.2.2.2.2.2.2.1,sX HB y.out.2.2.2.2.2.2.2.1,sX HB y.out.2.2.2.2.2.2.2.2.1,sX HB y.out.2.2.2.2.2.2.2.2.2⟩) (first|(refine Kd.R_append_rows_step k62 (w0:=w) w.heap.size (by rfl) (.tmp 24) (.tmp 39) 34 62 (.agg #[(.int .i64 0),(.int .i64 0),(.string ⟨#[]⟩),(.int .i64 0)]) 40 rfl Try.underlying34 info62 rfl (by decide) (by omega) (.slice Ao x.length co) x [rd_T62 ks i,rd_T62 vs i] _ _ _ (fun _=>True) (fun _=>False) rfl rfl ?aO ?aR (fun _ _ h=>h) (fun _ h=>h.elim) ?aF ?aB ?aS ?aL ?_;(case aO=>exact sE HO.out);(case aR=>exact(Kd.R_reads' (spec_l08Trace.at_alloc k62 62 _ [rd_T62 ks i,rd_T62 vs i] _ (spec_l08Trace.two_reps _ _ _) (by simp))).2.2);(case aF=>exact fun _ _=>trivial);(case aB=>exact sH HB.out);(case aS=>exact below_size (sH HB.out));(case aL=>have:=LM.out;show(x.length+2)*40≤_;omega);intro aj ak ho hb hg hat;clear HO HB;have HO:=zM ho;have HB:=zM hb;clear ho hb hg hat))
 go_wp2
 go_roundg k1
 case measure=>have:=ag.out;omega
 case rel=>exact⟨_,(wrap64 (i+1)),sr,H',⟨by have:=ag.out;omega⟩,⟨by exact sE HO.out⟩,⟨sb⟩⟩)
 ·rw[if_neg q]at H;cases H)
 ·rw[if_neg E]at H;cases H)
 ·rw[if_neg u]at H;cases H)
 ·(
 rw[if_neg o]at H
 obtain rfl:=zI H
 have c1b:decide (i<(ks.length:Int))=false:=zF o
 obtain⟨Ao,co,eo⟩:=Kd.R_slice HO.out
 subst eo
 replace n:=sX HB n
 replace j:=sX HB j
 replace l:=sX HB l
 replace v:=sX HB v
 replace z:=sX HB z
 replace B:=sX HB B
 replace D:=sX HB D
 go_wp2_with (first|((with_reducible refine gate_dst (N:=46) rfl ?_);refine Kd.R_lit k62 _ 62 ?hg (N:=46) ?hd (xs:=[(rd_T64 l0 0).f6]) (inner:=[.int .i64 (rd_T64 l0 0).f6.f0,.int .i64 (rd_T64 l0 0).f6.f1,.string (rd_T64 l0 0).f6.f2,.int .i64 (rd_T64 l0 0).f6.f3]) (ok:=fun _=>True) (okp:=fun _=>True) ?hr ?hp (fun _ hk=>hk) trivial (Below.refl _ _) (Nat.le_refl _) (by simp) ?_;(case hd=>rfl);(case hg=>rfl);(case hr=>first|(go_simp;done)|(go_simp;rfl));(case hp=>exact(Reps.c4 (show Kd.M k62 _ _ _ (rd_T64 l0 0).f6 [.int .i64 (rd_T64 l0 0).f6.f0,.int .i64 (rd_T64 l0 0).f6.f1,.string (rd_T64 l0 0).f6.f2,.int .i64 (rd_T64 l0 0).f6.f3] from k62_mkM _ _ _ (rd_T64 l0 0).f6) (Reps.none _ _)));intro av aw ho hb L O;clear L O;have aa:=zM ho;replace HO:=zM (Kd.R_below (sE HO.out) hb);replace HB:=sB HB hb;clear ho hb;obtain⟨Ab,cb,ebb⟩:=Kd.R_slice aa.out;subst ebb)|((with_reducible refine gate_builtin (b:= .append) (xs:= #[.tmp 41,.tmp 46]) rfl ?_);at_builtin;refine Kd.R_append_rows k62 (w0:=w) w.heap.size rfl (.tmp 41) (.tmp 46) 34 62 (.agg #[(.int .i64 0),(.int .i64 0),(.string ⟨#[]⟩),(.int .i64 0)]) 40 rfl Try.underlying34 info62 rfl (by decide) (by omega) (.slice Ao x.length co) x [(rd_T64 l0 0).f6] _ _ _ (fun _=>True) (fun _=>False) rfl rfl ?aO ?aR (fun _ _ h=>h) (fun _ h=>h.elim) ?aF ?aB ?aS ?aL ?_;(case aO=>exact sE HO.out);(case aR=>exact sD ((Kd.R_reads' aa.out).2.2));(case aF=>exact fun _ _=>trivial);(case aB=>exact sH HB.out);(case aS=>exact below_size (sH HB.out));(case aL=>have:=HM.out;show(x.length+1)*40≤_;omega);intro aj ak ho hb hg hat;clear HO HB aa;have HO:=zM ho;have HB:=zM hb;clear ho hb hg hat;obtain⟨ax,ay,al⟩:=Kd.R_slice HO.out;subst al))
 go_ret
 have hrd:=Kd.R_reads' HO.out
 have hlen:(x++[(rd_T64 l0 0).f6]).length=x.length+1:=by simp
 rw[hlen]at hrd
 refine⟨_,_,by first|rfl|(rw[hlen]),by first|exact hrd.2.1|(rw[hlen];exact hrd.2.1),sH HB.out,fun W_ S hS hK=>by first|exact Kd.C_kept_own (Kd.R_mono (Kd.R_bound (sE HO.out)) (fun _ F=>F.2.1)) (fun g am ab=>by have:=(hS g ab).2;omega) W_ hK|(have h9:=Kd.C_kept_own (Kd.R_mono (Kd.R_bound (sE HO.out)) (fun _ F=>F.2.1)) (fun g am ab=>by have:=(hS g ab).2;omega) W_ hK;simpa using h9)⟩))))
 ·(
 rw[if_neg hk]at h
 have hkb:((rd_T64 l0 0).f1 !=2)=true:=zX hk
 obtain rfl:=zI h
 have HI:=zM I
 have HL:=zM G
 clear h K I J G hr0 hB hl hk
 go_enter Try.func67,Try.ntmps67
 go_wp2
 go_ret
 exact⟨_,_,rfl,HL.out,Below.refl _ _,fun W_ S hS hK=>Kd.C_kept_came k62_heap HI.out m.out (fun g F=>(hS g F).1) W_ hK⟩)
def spec_l08Trace.l0 : Nat → List S32 → List Int → Int → Option (List Int)
 |0,_,_,_=>none
 |k+1,x0,seen,i=>if i<(seen.length:Int)then(if 0<(x0.length:Int)then(if 0≤i then((spec_l07Find.f k x0 (rd seen i)).bind fun t=>if 0≤t then(if t<(((rd_T32 x0 0).f1).length:Int)then((spec_l08Trace.cf k [rd_T64 (rd_T32 x0 0).f1 t]).bind fun c=>(spec_l08Visit.f k seen c).bind fun s2=>spec_l08Trace.l0 k x0 s2 (wrap64 (i+1)))else none)else none)else none)else none)else some seen
def spec_l08Trace.f (k:Nat) (l0:List S32) (l1:List S62):Option (List Int):=(spec_l08Visit.f k [] l1).bind fun s=>spec_l08Trace.l0 k l0 s 0
set_option maxHeartbeats 8000000 in
set_option maxRecDepth 100000 in
theorem spec_l08Trace.calls (k:Nat) (A0:Option Addr) (l0:List S32) (A1:Option Addr) (c1:Nat) (l1:List S62) (r:List Int) (w:World) (hr0:Kd.C k32 w A0 l0.length l0) (hr1:Kd.C k62 w A1 l1.length l1) (hc1:l1.length≤c1) (h:spec_l08Trace.f k l0 l1=some r):
  Calls Try.prog 39 #[.pointer A0,.slice A1 l1.length c1] w fun e w'=>∃u:Value,e= .returned (u)∧Kd.R (Kd.int .i64) 2 w' w.heap.size (fun _=>True) u r∧Below w.heap.size w w':=by
 have aj:=Try.underlying32
 have ak:=Try.underlying64
 have al:=Try.underlying62
 have v:=zM hr0
 have E:=zM hr1
 have F:=zM hc1
 have HB:=zM (Below.refl w.heap.size w)
 obtain⟨z,AV,H⟩:=sO (show(spec_l08Visit.f k [] l1).bind (fun s=>spec_l08Trace.l0 k l0 s 0)=some r from h)
 have H':=zM H
 clear h hr0 hr1 hc1 H
 go_enter Try.func39,Try.ntmps39
 go_wp2_with (first|((with_reducible refine gate_dst (N:=7) rfl ?_);refine Kd.R_lit (Kd.int .i64) _ 2 ?hg (N:=7) ?hd (xs:=([]:List Int)) (inner:=[]) (ok:=fun _=>True) (okp:=fun _=>True) ?hr ?hp (fun _ hk=>hk) trivial (Below.refl _ _) (Nat.le_refl _) (by simp) ?_;(case hd=>rfl);(case hg=>rfl);(case hr=>first|(go_simp;done)|(go_simp;rfl));(case hp=>exact(Reps.none _ _));intro v7 w7 ho hb G I;clear G I;have HO:=zM ho;replace HB:=sB HB hb;clear ho hb)|(go_at_call 66;(with_reducible refine(spec_l08Visit.calls k (fun g=>w.heap.size≤g) _ [] A1 c1 l1 z w _ ?sB ?sO ?sR F.out AV.out).mono ?_);(case sB=>exact sH HB.out);(case sO=>exact Kd.R_mono (Kd.R_bound (sE HO.out)) (fun _ j=>j.2.1));(case sR=>exact Kd.C_kept_came k62_heap E.out (sH HB.out) (fun _ j=>j));rintro e J ⟨v9,rfl,ho,hb,hk⟩;clear HO HB;have HO:=zM ho;have HB:=zM hb;clear ho hb hk))
 go_loopg [5,6] k (fun kq K L w'=>∃(x:List Int) (i:Int),L= .int .i64 i∧Aside0 (spec_l08Trace.l0 kq l0 x i=some r)∧Aside0 (kq≤k)∧Aside0 (Kd.R (Kd.int .i64) 2 w' w.heap.size (fun _=>True) K x)∧Aside0 (Below w.heap.size w w'))
 case atStart=>exact⟨z,0,sr,H',⟨Nat.le_refl _⟩,⟨Kd.R_mono (sE HO.out) (fun _ _=>trivial)⟩,⟨sb⟩⟩
 case round=>(
 clear H' HO
 obtain⟨x,i,rfl,HA,B,HO,HB⟩:=hrel
 cases gk with
 |zero=>exact absurd HA.out (by simp[spec_l08Trace.l0])
 |succ k1=>(
 have H:=HA.out
 clear HA
 simp only[spec_l08Trace.l0]at H
 obtain⟨Ao,co,eo⟩:=Kd.R_slice HO.out
 subst eo
 by_cases c1:i<(x.length:Int)
 ·(
 rw[if_pos c1]at H
 by_cases q:0<(l0.length:Int)
 ·(
 rw[if_pos q]at H
 by_cases n:0≤i
 ·(
 rw[if_pos n]at H
 obtain⟨t,AF,H⟩:=sO H
 by_cases l:0≤t
 ·(
 rw[if_pos l]at H
 by_cases m:t<(((rd_T32 l0 0).f1).length:Int)
 ·(
 rw[if_pos m]at H
 obtain⟨cc,AC,H⟩:=sO H
 obtain⟨O,P,H⟩:=sO H
 have H':=zM H
 clear H
 obtain⟨ad,Ah,ch,Q,D,o,hlh,hih⟩:=at_T32 v.out 0 (Int.le_refl 0) q
 cases Q
 rw[sZ]at D o
 obtain⟨ado,A4,am,A5,an,eo,T,U,V,X,Y,Z,aa,ab,ac,ae,af,ag,ah,ai⟩:=at_T64 hih t l m
 cases eo
 have HH:=zM hih
 clear T U V X Y Z aa ab ac ae af ag ah ai hih D
 obtain⟨ads,es,hs⟩:=Kd.at_int ((Kd.R_reads' HO.out).2.2) i n c1
 cases es
 have c1b:decide (i<(x.length:Int))=true:=zT c1
 replace c1:=eq_true c1
 replace n:=eq_true n
 replace l:=eq_true l
 replace m:=eq_true m
 have y:=zM o
 replace HO:=zM (Kd.R_mono (Kd.R_bound HO.out) (fun g j=>(⟨j.2.1,j.2.2.1⟩:w.heap.size≤g∧g<wr.heap.size)))
 replace o:=sX HB o
 go_wp2
 go_region_with (first|(go_at_call 68;(with_reducible refine(spec_l07Find.calls k1 (some ad) l0 (rd x i) t _ ?sR AF.out).mono ?_);(case sR=>exact sD (zC v.out HB.out));rintro e w' ⟨rfl,⟨nd,rfl⟩⟩)|(go_at_call 67;refine(spec_l08Trace.ccalls k1 (some (ado.add (t.toNat*10))) [rd_T64 (rd_T32 l0 0).f1 t] cc w _ ?sB ?sR AC.out).mono ?_;(case sB=>exact sH HB.out);(case sR=>exact C_one HH.out z64 t (of_eq_true l) (of_eq_true m));rintro e J ⟨Ac,ca,rfl,hlc,hb,hkeep⟩;replace HO:=zM (Kd.R_below (sE HO.out) hb);replace HB:=sB HB hb;have HKC:=zM hkeep;have HLC:=zM hlc;clear hb hkeep hlc)|(go_at_call 66;refine(spec_l08Visit.calls k1 (fun g=>w.heap.size≤g∧g<wr.heap.size) _ x Ac ca cc O w _ ?sB ?sO ?sR HLC.out P.out).mono ?_;(case sB=>exact sH HB.out);(case sO=>exact sE HO.out);(case sR=>exact fun W_ hK=>HKC.out W_ _ (fun g j=>j) hK);rintro e ao ⟨ap,rfl,ho,hb,hk⟩;clear HO HB;have HO:=zM ho;have HB:=zM hb;clear ho hb hk))
 all_goals go_wp2
 all_goals(go_roundg k1;(case measure=>have:=B.out;omega);(case rel=>exact⟨_,(wrap64 (i+1)),sr,H',⟨by have:=B.out;omega⟩,⟨Kd.R_mono (sE HO.out) (fun _ _=>trivial)⟩,⟨sb⟩⟩)))
 ·rw[if_neg m]at H;cases H)
 ·rw[if_neg l]at H;cases H)
 ·rw[if_neg n]at H;cases H)
 ·rw[if_neg q]at H;cases H)
 ·(
 rw[if_neg c1]at H
 obtain rfl:=zI H
 have c1b:decide (i<(x.length:Int))=false:=zF c1
 go_wp2
 go_ret
 exact⟨_,rfl,sE HO.out,sH HB.out⟩)))
end Go.Proofs.Ytpdljgieaaicpaa.PFnExactGarbage
