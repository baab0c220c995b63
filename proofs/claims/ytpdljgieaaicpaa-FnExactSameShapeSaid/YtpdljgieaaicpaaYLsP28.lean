/- Printed functions: impl_Value_105, impl_renumbered. -/
import Derived.Test.YtpdljgieaaicpaaYLsP0
import Derived.Test.YtpdljgieaaicpaaYLsP18
import Derived.Test.YtpdljgieaaicpaaYLsP27
namespace Go.Proofs.Ytpdljgieaaicpaa.PFnExactLiveSize
open Go.RowKit Go.Proofs.YtpdljgieaaicpaaG Go.Proofs.YtpdljgieaaicpaaW.PrintWords Go.Proofs.YtpdljgieaaicpaaW.PrintLast Go.Proofs.YtpdljgieaaicpaaW.PrintMore
attribute [local go_sem] max2_int min2_int max_two min_two max_three min_three max_four min_four
set_option linter.unusedVariables false
set_option linter.unusedSimpArgs false
theorem impl_Value_105.eqIn {P:Program} (w:World) (d:Nat) (t e:TypeId) (a:Option Addr) (l c:Nat) (h:P.underlying t=some (.slice e)):(Op.equalIn (d+1) t (.slice a l c) (.slice none 0 0)).run P w= .ok a.isNone w:=by
 cases a<;>simp[Op.equalIn,run_underlying h]
theorem impl_Value_105.eq {P:Program} (w:World) (t e:TypeId) (a:Option Addr) (l c:Nat) (h:P.underlying t=some (.slice e)):(binOp .eql t (.slice a l c) (.slice none 0 0)).run P w= .ok (.bool a.isNone) w:=by
 have m:(Op.equal t (.slice a l c) (.slice none 0 0)).run P w= .ok a.isNone w:=impl_Value_105.eqIn w 9999 t e a l c h
 simp only[binOp]
 simp[m]
def impl_Value_105.f (l0:List S62):Option (List S62):=if l0.length<3518437208883 then some l0 else none
set_option maxHeartbeats 4000000 in
set_option maxRecDepth 100000 in
theorem impl_Value_105.calls (A0:Option Addr) (c0:Nat) (l0:List S62) (r:List S62) (w:World) (hr0:Kd.C k62 w A0 l0.length l0) (hc0:l0.length≤c0) (h:impl_Value_105.f l0=some r):
  Calls Try.prog 105 #[.slice A0 l0.length c0] w fun e w'=>∃o:Value,e= .returned (o)∧Kd.R k62 62 w' w.heap.size (fun _=>True) o r∧Below w.heap.size w w':=by
 have hl:l0.length<3518437208883:=by(
 unfold impl_Value_105.f at h
 split at h
 ·assumption
 ·cases h)
 unfold impl_Value_105.f at h
 rw[if_pos hl]at h
 obtain rfl:=zI h
 have E:=Try.underlying34
 have F:=Try.underlying62
 have s:=zM hr0
 have G:=zM hc0
 have LM:=zM hl
 have HB:=zM (Below.refl w.heap.size w)
 clear h hc0 hl
 cases A0 with
 |none=>(
 have m:l0.length=0:=by(
 rcases Nat.eq_zero_or_pos l0.length with m|m
 ·exact m
 ·(
 obtain⟨ad,he,_⟩:=hr0.2.2 m
 cases he))
 obtain rfl:l0=[]:=List.eq_nil_of_length_eq_zero m
 clear hr0 m
 have hq:=impl_Value_105.eq (P:=Try.prog) w 34 62 none 0 c0 Try.underlying34
 simp only[List.length_nil]
 go_enter Try.func105,Try.ntmps105
 go_wp2
 go_ret
 exact⟨_,rfl,Kd.R_nil _ _ _ _ _,sH HB.out⟩)
 |some ad=>(
 clear hr0
 have hq:=impl_Value_105.eq (P:=Try.prog) w 34 62 (some ad) l0.length c0 Try.underlying34
 go_enter Try.func105,Try.ntmps105
 go_wp2_with (first|((with_reducible refine gate_dst (N:=5) rfl ?_);refine Kd.R_lit k62 _ 62 ?hg (N:=5) ?hd (xs:=([]:List S62)) (inner:=[]) (ok:=fun _=>True) (okp:=fun _=>True) ?hr ?hp (fun _ hk=>hk) trivial (Below.refl _ _) (Nat.le_refl _) (by simp) ?_;(case hd=>rfl);(case hg=>rfl);(case hr=>first|(go_simp;done)|(go_simp;rfl));(case hp=>exact(Reps.none _ _));intro I J ho hb y z;clear y z;have HO:=zM (Kd.R_lower ho HB.out.size);replace HB:=sB HB hb;clear ho hb;obtain⟨A,B,D⟩:=Kd.R_slice HO.out;subst D)|((with_reducible refine gate_builtin (b:= .append) (xs:= #[.tmp 5,.tmp 6]) rfl ?_);at_builtin;refine Kd.R_append_rows k62 (w0:=w) w.heap.size rfl (.tmp 5) (.tmp 6) 34 62 (.agg #[(.int .i64 0),(.int .i64 0),(.string ⟨#[]⟩),(.int .i64 0)]) 40 rfl Try.underlying34 info62 rfl (by decide) (by omega) (.slice A 0 B) [] l0 _ _ _ (fun _=>True) (fun _=>False) rfl rfl ?aO ?aR (fun _ _ h=>h) (fun _ h=>h.elim) ?aF ?aB ?aS ?aL ?_;(case aO=>exact sE HO.out);(case aR=>exact sD (zC s.out HB.out));(case aF=>exact fun _ _=>trivial);(case aB=>exact sH HB.out);(case aS=>exact below_size (sH HB.out));(case aL=>have:=LM.out;show(0+l0.length)*40≤_;omega);intro K L ho hb hg hat;clear HO HB;have HO:=zM ho;have HB:=zM hb;clear ho hb hg hat))
 go_ret
 exact⟨_,rfl,by have q:=HO.out;rw[List.nil_append]at q;exact sE q,sH HB.out⟩)
theorem impl_renumbered.set4_kept {w w8:World} {g:Nat} {S:Nat→Prop} (v0 v1 v2 v3:Value) (h:Kept w w8 S) (hg:w.heap.size≤g):Kept w ((((w8.setCell ⟨g,0,none⟩ v0).setCell ⟨g,1,none⟩ v1).setCell ⟨g,2,none⟩ v2).setCell ⟨g,3,none⟩ v3) S:=
  (((h.setCell (p:=⟨g,0,none⟩) (.inr hg) v0).setCell (p:=⟨g,1,none⟩) (.inr hg) v1).setCell (p:=⟨g,2,none⟩) (.inr hg) v2).setCell (p:=⟨g,3,none⟩) (.inr hg) v3
theorem impl_renumbered.set4_below {w w8:World} {g:Nat} (v0 v1 v2 v3:Value) (h:Below w.heap.size w w8) (hg:w.heap.size≤g):Below w.heap.size w ((((w8.setCell ⟨g,0,none⟩ v0).setCell ⟨g,1,none⟩ v1).setCell ⟨g,2,none⟩ v2).setCell ⟨g,3,none⟩ v3):=
  below_set (below_set (below_set (below_set h hg) hg) hg) hg
theorem impl_renumbered.set4_blk {w8:World} {g b:Nat} {t:TypeId} {cs:Array Value} (v0 v1 v2 v3:Value) (h:w8.heap[b]?=some (.cells cs t (0,0))) (hne:b≠g):((((w8.setCell ⟨g,0,none⟩ v0).setCell ⟨g,1,none⟩ v1).setCell ⟨g,2,none⟩ v2).setCell ⟨g,3,none⟩ v3).heap[b]?=some (.cells cs t (0,0)):=
  blk_far (blk_far (blk_far (blk_far h hne _) hne _) hne _) hne _
def impl_renumbered.l0 : Nat → List S62 → List Int → Int → Option (List S62)
 |0,_,_,_=>none
 |k+1,xs,ids,i=>if i<(xs.length:Int)then(if 0≤i then((impl_refers.f (rd_T62 xs i).f0).bind fun t=>if t=true then((slices_Index_int64_int64.f k ids (rd_T62 xs i).f3).bind fun j=>impl_renumbered.l0 k (xs.set i.toNat ⟨(rd_T62 xs i).f0,(rd_T62 xs i).f1,(rd_T62 xs i).f2,wrap64 (j+1)⟩) ids (wrap64 (i+1)))else impl_renumbered.l0 k xs ids (wrap64 (i+1)))else none)else some xs
def impl_renumbered.f (k:Nat) (l0:List S62) (l1:List Int):Option (List S62):=(impl_Value_105.f l0).bind fun xs=>impl_renumbered.l0 k xs l1 0
theorem impl_renumbered.own {α:Type} {d:Kd α} {e:Nat} {w:World} {base:Nat} {ok:Nat→Prop} {v:Value} {xs:List α} (h:d.R e w base ok v xs) (hp:0<xs.length):∃g cap,v= .slice (some ⟨g,0,none⟩) xs.length cap:=by
 obtain⟨_,inner,hown,hr⟩:=h
 rcases hown.2 with⟨hv,hn⟩|⟨g,cap,cur,hv,_⟩
 ·rw[hn]at hp;exact absurd hp (by simp)
 ·exact⟨g,cap,hv⟩
theorem impl_renumbered.put {W:World} {base:Nat} {ok:Nat→Prop} {g n cap:Nat} {xs:List S62} (h:Kd.R k62 62 W base ok (.slice (some ⟨g,0,none⟩) n cap) xs) (i:Int) (h0:0≤i) (h1:i<(n:Int)) (u:Int):
  Kd.R k62 62 (W.setCell ⟨g,i.toNat*4+3,none⟩ (.int .i64 u)) base ok (.slice (some ⟨g,0,none⟩) n cap) (xs.set i.toNat ⟨(rd_T62 xs i).f0,(rd_T62 xs i).f1,(rd_T62 xs i).f2,u⟩):=by
 obtain⟨hn,_,hC⟩:=Kd.R_reads' h
 obtain⟨ad,y,m,o,q,s⟩:=at_T62 hC i h0 (by omega)
 cases y
 simp only[add_plain,Nat.zero_add]at m o q s
 have hcc:∀(j:Nat) (v:Value),([.int .i64 (rd_T62 xs i).f0,.int .i64 (rd_T62 xs i).f1,.string (rd_T62 xs i).f2,.int .i64 (rd_T62 xs i).f3]:List Value)[j]?=some v→W.cell? ⟨g,i.toNat*4+j,none⟩=some v:=by(
 intro j v hv
 rcases j with _|_|_|_|j
 ·simp at hv;subst hv;exact m
 ·simp at hv;subst hv;exact o
 ·simp at hv;subst hv;exact q
 ·simp at hv;subst hv;exact s
 ·simp at hv)
 have z:=(Kd.R_seg (d:=k62) (okp:=fun _=>False) h i h0 h1 (c:=[.int .i64 (rd_T62 xs i).f0,.int .i64 (rd_T62 xs i).f1,.string (rd_T62 xs i).f2,.int .i64 (rd_T62 xs i).f3]) (seg:=[.int .i64 u]) (j:=3) rfl hcc (Nat.le_refl 4) (x':=⟨(rd_T62 xs i).f0,(rd_T62 xs i).f1,(rd_T62 xs i).f2,u⟩) (k62_mkM _ _ _ (⟨(rd_T62 xs i).f0,(rd_T62 xs i).f1,(rd_T62 xs i).f2,u⟩:S62)) (fun _ A=>A.elim)).1
 exact z
theorem impl_renumbered.cold {W:World} {base:Nat} {ok:Nat→Prop} {g n cap:Nat} {xs:List S62} (h:Kd.R k62 62 W base ok (.slice (some ⟨g,0,none⟩) n cap) xs) (i:Int) (h0:0≤i) (h1:i<(n:Int)):W.frozen? ⟨g,i.toNat*4+3,none⟩=false:=by
 obtain⟨_,_,_,_,hf⟩:=Kd.R_elem h z62 i h0 h1
 exact hf 3
set_option maxHeartbeats 8000000 in
set_option maxRecDepth 100000 in
theorem impl_renumbered.calls (k:Nat) (A0:Option Addr) (c0:Nat) (l0:List S62) (A1:Option Addr) (c1:Nat) (l1:List Int) (r:List S62) (w:World) (hr0:Kd.C k62 w A0 l0.length l0) (hc0:l0.length≤c0) (hr1:Kd.C (Kd.int .i64) w A1 l1.length l1) (hc1:l1.length≤c1) (h:impl_renumbered.f k l0 l1=some r):
  Calls Try.prog 81 #[.slice A0 l0.length c0,.slice A1 l1.length c1] w fun e w'=>∃M:Value,e= .returned (M)∧Kd.R k62 62 w' w.heap.size (fun _=>True) M r∧Below w.heap.size w w':=by
 have af:=Try.underlying62
 have V:=zM hr0
 have X:=zM hc0
 have Y:=zM hr1
 have Z:=zM hc1
 have HB:=zM (Below.refl w.heap.size w)
 obtain⟨xs,AC,H⟩:=sO (show(impl_Value_105.f l0).bind (fun xs=>impl_renumbered.l0 k xs l1 0)=some r from h)
 have H':=zM H
 clear hr0 hc0 hr1 hc1 h H
 go_enter Try.func81,Try.ntmps81
 go_wp2_with (first|(go_at_call 105;(with_reducible refine(impl_Value_105.calls A0 c0 l0 xs _ ?sR X.out AC.out).mono ?_);(case sR=>exact sD V.out);rintro e O ⟨v9,rfl,ho,hb⟩;have HO:=zM ho;replace HB:=sB HB hb;clear ho hb;obtain⟨A9,c9,e9⟩:=Kd.R_slice HO.out;subst e9))
 go_loopg [12] k (fun kq aa w'=>∃(i:Int) (x:List S62),aa= .int .i64 i∧Aside0 (impl_renumbered.l0 kq x l1 i=some r)∧Aside0 (kq≤k)∧Aside0 (x.length=xs.length)∧Aside0 (Kd.R k62 62 w' w.heap.size (fun _=>True) (.slice A9 xs.length c9) x)∧Aside0 (Below w.heap.size w w'))
 case atStart=>exact⟨0,xs,sr,H',⟨Nat.le_refl _⟩,⟨rfl⟩,⟨sE HO.out⟩,⟨sb⟩⟩
 case round=>(
 clear H' HO HB
 obtain⟨i,x,rfl,HA,s,HX,HO,HB⟩:=hrel
 cases gk with
 |zero=>exact absurd HA.out (by simp[impl_renumbered.l0])
 |succ k1=>(
 have H:=HA.out
 clear HA
 simp only[impl_renumbered.l0]at H
 have hx:=HX.out
 by_cases y:i<(x.length:Int)
 ·(
 rw[if_pos y]at H
 by_cases o:0≤i
 ·(
 rw[if_pos o]at H
 obtain⟨t,AT,H⟩:=sO H
 have K:i<(xs.length:Int):=by omega
 have hdec:decide (i<(xs.length:Int))=true:=zT K
 obtain⟨g,cap,eg⟩:=impl_renumbered.own HO.out (by omega)
 injection eg with ab ac ae
 subst ab
 clear ac
 subst ae
 have hC:Kd.C k62 wr (some ⟨g,0,none⟩) x.length x:=(Kd.R_reads' HO.out).2.2
 obtain⟨ad,e0,Q,T,U,L⟩:=at_T62 hC i o y
 cases e0
 simp only[add_plain,Nat.zero_add]at Q T U L
 have q2':(0≤i)=True:=eq_true o
 have q3':(i<(xs.length:Int))=True:=eq_true K
 clear hx y o K hC
 by_cases ct:t=true
 ·(
 subst ct
 rw[if_pos rfl]at H
 obtain⟨j,AJ,H⟩:=sO H
 have H':=zM H
 clear H
 go_wp2_with (first|((with_reducible refine gate_dst (N:=7) rfl ?_);refine sV (N:=7) (cs:= #[.int .i64 0,.int .i64 0,.string ⟨#[]⟩,.int .i64 0]) (t:=62) ?_;intro gb hg w8 hbox hb;obtain⟨z,A,B,D,E,F,G,I⟩:=cells4 hbox;have HBX:=zM hbox;have HGB:=zM hg;have q:=zM hb;clear hbox hg hb)|(go_at_call 74;(with_reducible refine(impl_refers.calls (rd_T62 x i).f0 true _ AT.out).mono ?_);rintro e O ⟨rfl,hd⟩;have J:=zM hd.below;have m:=zM (below_then (impl_renumbered.set4_below _ _ _ _ q.out (by rw[HGB.out];exact Nat.le_refl _)) (Below.size (impl_renumbered.set4_below _ _ _ _ q.out (by rw[HGB.out];exact Nat.le_refl _))) J.out);clear z A B D E F G I hd;replace HO:=zM (Kd.R_below HO.out m.out);replace HB:=sB HB m.out;replace L:=sX m L;clear Q T U;have ag:=impl_renumbered.cold HO.out i (of_eq_true q2') (of_eq_true q3');obtain⟨z,A,B,D,E,F,G,I⟩:=cells4 (blk_below (sP4 HBX.out) J.out))|(go_at_call 77;(with_reducible refine(slices_Index_int64_int64.calls k1 A1 c1 l1 (rd_T62 x i).f3 j _ ?sR Z.out AJ.out).mono ?_);(case sR=>exact sD (zC Y.out HB.out));rintro e w' ⟨rfl,⟨nd,rfl⟩⟩))
 go_roundg k1
 case measure=>have:=s.out;omega
 case rel=>exact⟨_,_,sr,H',⟨by have:=s.out;omega⟩,⟨by rw[List.length_set];exact HX.out⟩,⟨impl_renumbered.put (sE HO.out) i (of_eq_true q2') (of_eq_true q3') _⟩,⟨below_set (sH HB.out) (Kd.R_base HO.out g (by simp[Value.ownBlock]))⟩⟩)
 ·(
 rw[if_neg ct]at H
 replace ct:=zB ct
 subst ct
 have H':=zM H
 clear H
 go_wp2_with (first|((with_reducible refine gate_dst (N:=7) rfl ?_);refine sV (N:=7) (cs:= #[.int .i64 0,.int .i64 0,.string ⟨#[]⟩,.int .i64 0]) (t:=62) ?_;intro gb hg w8 hbox hb;obtain⟨z,A,B,D,E,F,G,I⟩:=cells4 hbox;have HBX:=zM hbox;have HGB:=zM hg;have q:=zM hb;clear hbox hg hb)|(go_at_call 74;(with_reducible refine(impl_refers.calls (rd_T62 x i).f0 false _ AT.out).mono ?_);rintro e O ⟨rfl,hd⟩;have J:=zM hd.below;have m:=zM (below_then (impl_renumbered.set4_below _ _ _ _ q.out (by rw[HGB.out];exact Nat.le_refl _)) (Below.size (impl_renumbered.set4_below _ _ _ _ q.out (by rw[HGB.out];exact Nat.le_refl _))) J.out);clear z A B D E F G I hd;replace HO:=zM (Kd.R_below HO.out m.out);replace HB:=sB HB m.out))
 go_roundg k1
 case measure=>have:=s.out;omega
 case rel=>exact⟨_,x,sr,H',⟨by have:=s.out;omega⟩,HX,⟨sE HO.out⟩,⟨sb⟩⟩))
 ·rw[if_neg o]at H;cases H)
 ·(
 rw[if_neg y]at H
 obtain rfl:=zI H
 have hdec:decide (i<(xs.length:Int))=false:=zF (by omega)
 go_wp2
 go_ret
 exact⟨_,rfl,sE HO.out,sH HB.out⟩)))
end Go.Proofs.Ytpdljgieaaicpaa.PFnExactLiveSize
