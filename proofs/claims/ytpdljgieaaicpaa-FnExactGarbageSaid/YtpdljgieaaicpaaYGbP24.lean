/- Printed functions: slices_Index_int64_int64, slices_Contains_int64_int64, impl_Heap_reachable. -/
import Derived.Test.YtpdljgieaaicpaaYGbP0
import Derived.Test.YtpdljgieaaicpaaYGbP15
import Derived.Test.YtpdljgieaaicpaaYGbP22
namespace Go.Proofs.Ytpdljgieaaicpaa.PFnExactGarbage
open Go.RowKit Go.Proofs.YtpdljgieaaicpaaG Go.Proofs.YtpdljgieaaicpaaW.PrintWords Go.Proofs.YtpdljgieaaicpaaW.PrintLast Go.Proofs.YtpdljgieaaicpaaW.PrintMore
attribute [local go_sem] max2_int min2_int max_two min_two max_three min_three max_four min_four
set_option linter.unusedVariables false
set_option linter.unusedSimpArgs false
def slices_Index_int64_int64.l0 : Nat → List Int → Int → Int → Int → Option (Int)
 |0,_,_,_,_=>none
 |k+1,x0,x1,x7,x8=>if x8<x7 then(if 0≤x8 then(if x8<(x0.length:Int)then(if x1=(rd x0 x8)then(some x8)else(slices_Index_int64_int64.l0 k x0 x1 x7 (wrap64 (x8+1))))else(none))else(none))else(some (-1))
def slices_Index_int64_int64.f (k:Nat) (l0:List Int) (a1:Int):Option (Int):=slices_Index_int64_int64.l0 k l0 a1 (l0.length:Int) 0
set_option maxHeartbeats 8000000 in
set_option maxRecDepth 100000 in
theorem slices_Index_int64_int64.calls (k:Nat) (A0:Option Addr) (c0:Nat) (l0:List Int) (a1:Int) (r:Int) (w:World) (hr0:Kd.C (Kd.int .i64) w A0 l0.length l0) (hc0:l0.length≤c0) (h:slices_Index_int64_int64.f k l0 a1=some r):
  Calls Try.prog 77 #[.slice A0 l0.length c0,.int .i64 a1] w fun e w'=>e= .returned (.int .i64 r)∧Drawn0 w w':=by
 have I:=zM hr0
 have P:=zM hc0
 clear hr0 hc0
 have H:(slices_Index_int64_int64.l0 k l0 a1 (l0.length:Int) 0)=some r:=h
 clear h
 have H':=zM H
 clear H
 go_enter Try.func77,Try.ntmps77
 go_wp2
 go_loopg [8] k (fun kq K w'=>∃(m:Int),K= .int .i64 m∧Aside0 (slices_Index_int64_int64.l0 kq l0 a1 (l0.length:Int) m=some r)∧Aside0 (kq≤k)∧Drawn0 w w')
 case atStart=>exact⟨(0),sr,H',⟨Nat.le_refl _⟩,by repeat(first|exact Drawn0.refl _|apply Drawn0.step)⟩
 case round=>(
 clear H'
 obtain⟨m,rfl,HA,J,⟨Q,rfl⟩⟩:=hrel
 cases gk with
 |zero=>exact absurd HA.out (by simp[slices_Index_int64_int64.l0])
 |succ k1=>(
 have H:=HA.out
 clear HA
 simp only[slices_Index_int64_int64.l0]at H
 by_cases D:m<(l0.length:Int)
 ·(
 rw[if_pos D]at H
 have c3b0:=zT D
 clear D
 by_cases E:0≤m
 ·(
 rw[if_pos E]at H
 have c4b0:=zT E
 clear E
 by_cases F:m<(l0.length:Int)
 ·(
 rw[if_pos F]at H
 have c5b0:=zT F
 clear F
 by_cases q:a1=(rd l0 m)
 ·(
 rw[if_pos q]at H
 have c6b0:(a1==(rd l0 m))=true:=zE q
 have c6b1:(a1 !=(rd l0 m))=false:=zY q
 clear q
 obtain rfl:=zI H
 have z:0≤(m:Int):=zzA
 have B:m<(l0.length:Int):=zzA
 obtain⟨L,G,O⟩:=Kd.at_int I.out m z B
 cases G
 replace z:=eq_true z
 replace B:=eq_true B
 go_wp2
 go_ret
 exact⟨by first|rfl|(simp;done)|(simp[*];done),by repeat(first|exact Drawn0.refl _|apply Drawn0.step)⟩)
 rw[if_neg q]at H
 have c6b0:(a1==(rd l0 m))=false:=zN q
 have c6b1:(a1 !=(rd l0 m))=true:=zX q
 have H':=zM H
 clear H
 have z:0≤(m:Int):=zzA
 have B:m<(l0.length:Int):=zzA
 obtain⟨L,G,O⟩:=Kd.at_int I.out m z B
 cases G
 replace z:=eq_true z
 replace B:=eq_true B
 go_wp2
 go_roundg k1
 case measure=>have:=J.out;omega
 case rel=>exact⟨(wrap64 (m+1)),sr,H',⟨by have:=J.out;omega⟩,by repeat(first|exact Drawn0.refl _|apply Drawn0.step)⟩)
 rw[if_neg F]at H
 exact absurd H (by simp))
 rw[if_neg E]at H
 exact absurd H (by simp))
 rw[if_neg D]at H
 have c3b0:=zF D
 clear D
 obtain rfl:=zI H
 go_wp2
 go_ret
 exact⟨by first|rfl|(simp;done)|(simp[*];done),by repeat(first|exact Drawn0.refl _|apply Drawn0.step)⟩))
def slices_Contains_int64_int64.f (k:Nat) (l0:List Int) (a1:Int):Option (Bool):=(slices_Index_int64_int64.f k l0 a1).bind fun t397=>(some (decide (t397≥0)))
set_option maxHeartbeats 8000000 in
set_option maxRecDepth 100000 in
theorem slices_Contains_int64_int64.calls (k:Nat) (A0:Option Addr) (c0:Nat) (l0:List Int) (a1:Int) (r:Bool) (w:World) (hr0:Kd.C (Kd.int .i64) w A0 l0.length l0) (hc0:l0.length≤c0) (h:slices_Contains_int64_int64.f k l0 a1=some r):
  Calls Try.prog 45 #[.slice A0 l0.length c0,.int .i64 a1] w fun e w'=>e= .returned (.bool r)∧Drawn0 w w':=by
 have q:=zM hr0
 have z:=zM hc0
 clear hr0 hc0
 have H:((slices_Index_int64_int64.f k l0 a1).bind fun m=>(some (decide (m≥0))))=some r:=h
 clear h
 obtain⟨m,B,H⟩:=sO H
 obtain rfl:=zI H
 go_enter Try.func45,Try.ntmps45
 go_wp2_with (first|((with_reducible refine gate_callee (f:=77) rfl ?_);refine sC (some 7) Try.func77 #[.slice A0 l0.length c0,.int .i64 a1] (slices_Index_int64_int64.calls k _ _ l0 a1 m _ ?side1 ?side2 B.out) ?_;(case side1=>exact sD q.out);(case side2=>exact z.out);rintro e w' ⟨rfl,⟨nd,rfl⟩⟩;refine⟨_,rfl,?_⟩))
 go_ret
 exact⟨by first|rfl|(simp;done)|(simp[*];done),by repeat(first|exact Drawn0.refl _|apply Drawn0.step)⟩
theorem impl_Heap_reachable.at_alloc {α:Type} (d:Kd α) (e:Nat) (W:World) (xs:List α) (inner:List Value) (hrep:Reps (d.M W W.heap.size (fun _=>True)) d.sz xs inner) (hm:xs.length≤9223372036854775807):d.R e (W.alloc (.cells inner.toArray e)) W.heap.size (fun _=>True) (.slice (some ⟨W.heap.size,0,none⟩) xs.length xs.length) xs:=by
 refine⟨fun _ _=>trivial,inner,?_,?_⟩
 ·(
 have m:=World.ownsRow_lit (base:=W.heap.size) (e:=e) (size:=d.sz) W inner.toArray xs.length (Nat.le_refl _) (by simpa[maxLen]using hm) (by simpa using hrep.1)
 simpa using m)
 ·(
 refine hrep.imp_ (fun p c hp=>d.M_mono (fun k hk=>⟨trivial,fun he=>?_⟩) (Kd.M_below (d.M_bound hp) (below_alloc (Below.refl _ _) _)))
 have q:k=W.heap.size:=by simpa[Value.ownBlock]using he
 have:=hk.2.2.1
 omega)
theorem impl_Heap_reachable.two_reps (W:World) (a b:S62):Reps (k62.M W W.heap.size (fun _=>True)) k62.sz [a,b] [.int .i64 a.f0,.int .i64 a.f1,.string a.f2,.int .i64 a.f3,.int .i64 b.f0,.int .i64 b.f1,.string b.f2,.int .i64 b.f3]:=
  Reps.c4 (show Kd.M k62 _ _ _ a [.int .i64 a.f0,.int .i64 a.f1,.string a.f2,.int .i64 a.f3] from k62_mkM _ _ _ a) (Reps.c4 (show Kd.M k62 _ _ _ b [.int .i64 b.f0,.int .i64 b.f1,.string b.f2,.int .i64 b.f3] from k62_mkM _ _ _ b) (Reps.none _ _))
theorem impl_Heap_reachable.one_reps (W:World) (a:S62):Reps (k62.M W W.heap.size (fun _=>True)) k62.sz [a] [.int .i64 a.f0,.int .i64 a.f1,.string a.f2,.int .i64 a.f3]:=
  Reps.c4 (show Kd.M k62 _ _ _ a [.int .i64 a.f0,.int .i64 a.f1,.string a.f2,.int .i64 a.f3] from k62_mkM _ _ _ a) (Reps.none _ _)
def impl_Heap_reachable.c0 : Nat → List S62 → List S62 → List S62 → Int → Option (List S62)
 |0,_,_,_,_=>none
 |k+1,acc,ks,vs,i=>if i<(ks.length:Int)then(if 0≤i then(if i<(vs.length:Int)then(if acc.length+2<3518437208883 then impl_Heap_reachable.c0 k (acc++[rd_T62 ks i,rd_T62 vs i]) ks vs (wrap64 (i+1))else none)else none)else none)else some acc
def impl_Heap_reachable.cf (k:Nat) (l0:List S64):Option (List S62):=if 0<(l0.length:Int)then(if(rd_T64 l0 0).f1=2 then((impl_Heap_reachable.c0 k [] (rd_T64 l0 0).f4 (rd_T64 l0 0).f5 0).bind fun acc=>if acc.length+1<3518437208883 then some (acc++[(rd_T64 l0 0).f6])else none)else some (rd_T64 l0 0).f5)else none
theorem impl_Heap_reachable.set4_kept {w w8:World} {g:Nat} {S:Nat→Prop} (v0 v1 v2 v3:Value) (h:Kept w w8 S) (hg:w.heap.size≤g):Kept w ((((w8.setCell ⟨g,0,none⟩ v0).setCell ⟨g,1,none⟩ v1).setCell ⟨g,2,none⟩ v2).setCell ⟨g,3,none⟩ v3) S:=
  (((h.setCell (p:=⟨g,0,none⟩) (.inr hg) v0).setCell (p:=⟨g,1,none⟩) (.inr hg) v1).setCell (p:=⟨g,2,none⟩) (.inr hg) v2).setCell (p:=⟨g,3,none⟩) (.inr hg) v3
theorem impl_Heap_reachable.set4_below {w w8:World} {g:Nat} (v0 v1 v2 v3:Value) (h:Below w.heap.size w w8) (hg:w.heap.size≤g):Below w.heap.size w ((((w8.setCell ⟨g,0,none⟩ v0).setCell ⟨g,1,none⟩ v1).setCell ⟨g,2,none⟩ v2).setCell ⟨g,3,none⟩ v3):=
  below_set (below_set (below_set (below_set h hg) hg) hg) hg
theorem impl_Heap_reachable.set4_blk {w8:World} {g b:Nat} {t:TypeId} {cs:Array Value} (v0 v1 v2 v3:Value) (h:w8.heap[b]?=some (.cells cs t (0,0))) (hne:b≠g):((((w8.setCell ⟨g,0,none⟩ v0).setCell ⟨g,1,none⟩ v1).setCell ⟨g,2,none⟩ v2).setCell ⟨g,3,none⟩ v3).heap[b]?=some (.cells cs t (0,0)):=
  blk_far (blk_far (blk_far (blk_far h hne _) hne _) hne _) hne _
set_option maxHeartbeats 8000000 in
set_option maxRecDepth 100000 in
theorem impl_Heap_reachable.tcalls (k:Nat) (o:S64) (A4:Option Addr) (c4:Nat) (A5:Option Addr) (c5:Nat) (r:List S62) (w0 w:World) (hB:Below w0.heap.size w0 w) (h4:Kd.C k62 w0 A4 o.f4.length o.f4) (hl4:o.f4.length≤c4) (h5:Kd.C k62 w0 A5 o.f5.length o.f5) (hl5:o.f5.length≤c5) (h:impl_Heap_reachable.cf k [o]=some r):
  Calls Try.prog 76 #[.agg #[.int .i64 o.f0,.int .i64 o.f1,.string o.f2,.int .i64 o.f3,.slice A4 o.f4.length c4,.slice A5 o.f5.length c5,.int .i64 o.f6.f0,.int .i64 o.f6.f1,.string o.f6.f2,.int .i64 o.f6.f3]] w fun e w'=>∃(A:Option Addr) (c:Nat),e= .returned (.slice A r.length c)∧r.length≤c∧Below w.heap.size w w'∧∀(W_:World) (S:Nat→Prop),(∀k_,S k_→w0.heap.size≤k_∧k_<w.heap.size)→Kept w' W_ S→Kd.C k62 W_ A r.length r:=by
 have aQ:=Try.underlying64
 have aT:=Try.underlying62
 have h:(if o.f1=2 then((impl_Heap_reachable.c0 k [] o.f4 o.f5 0).bind fun acc=>if acc.length+1<3518437208883 then some (acc++[o.f6])else none)else some o.f5)=some r:=h
 have av:=zM (zC h4 hB)
 have aw:=zM (zC h5 hB)
 have HI:=zM h5
 have HL:=zM hl5
 have aU:=zM hl4
 have am:=zM hB
 have HB:=zM (Below.refl w.heap.size w)
 clear h4 hl4 h5 hl5 hB
 by_cases hk:o.f1=2
 ·(
 rw[if_pos hk]at h
 have hkb:(o.f1 !=2)=false:=zY hk
 obtain⟨acc,H,h⟩:=Option.bind_eq_some_iff.mp h
 have hacc:acc.length+1<3518437208883:=by(
 split at h
 ·assumption
 ·cases h)
 rw[if_pos hacc]at h
 obtain rfl:=zI h
 have H':=zM H
 have HM:=zM hacc
 clear h hk H hacc
 go_enter Try.func76,Try.ntmps76
 go_wp2_with (first|((with_reducible refine gate_dst (N:=1) rfl ?_);refine sV (N:=1) (cs:= #[.int .i64 o.f0,.int .i64 o.f1,.string o.f2,.int .i64 o.f3,.slice A4 o.f4.length c4,.slice A5 o.f5.length c5,.int .i64 o.f6.f0,.int .i64 o.f6.f1,.string o.f6.f2,.int .i64 o.f6.f3]) (t:=64) ?_;intro gb hg w3 hbox hb;have HGB:=zM hg;have BK:=zM hbox;replace HB:=sB HB hb;obtain⟨B,D,E,F,G,I,J,K,L,O,P,Q,T,U,V,X,Z,aa,ab,ac⟩:=cells10 hbox;clear hg hbox hb)|((with_reducible refine gate_dst (N:=11) rfl ?_);refine Kd.R_lit k62 _ 62 ?hg (N:=11) ?hd (xs:=([]:List S62)) (inner:=[]) (ok:=fun _=>True) (okp:=fun _=>True) ?hr ?hp (fun _ hk=>hk) trivial (Below.refl _ _) (Nat.le_refl _) (by simp) ?_;(case hd=>rfl);(case hg=>rfl);(case hr=>first|(go_simp;done)|(go_simp;rfl));(case hp=>exact(Reps.none _ _));intro aV aW ho hb ae af;clear ae af B D E F G I J K L O P Q T U V X Z aa ab ac;have HO:=zM (Kd.R_lower (Kd.R_newB ho BK.out) HB.out.size);replace HB:=sB HB hb;replace BK:=sK BK hb;obtain⟨B,D,E,F,G,I,J,K,L,O,P,Q,T,U,V,X,Z,aa,ab,ac⟩:=cells10 BK.out;clear ho hb))
 go_loopg [3,15] k (fun kq v3 ax w'=>∃(x:List S62) (i:Int),ax= .int .i64 i∧Aside0 (impl_Heap_reachable.c0 kq x o.f4 o.f5 i=some acc)∧Aside0 (kq≤k)∧Aside0 (w'.heap[gb]?=some (.cells #[.int .i64 o.f0,.int .i64 o.f1,.string o.f2,.int .i64 o.f3,.slice A4 o.f4.length c4,.slice A5 o.f5.length c5,.int .i64 o.f6.f0,.int .i64 o.f6.f1,.string o.f6.f2,.int .i64 o.f6.f3] 64 (0,0)))∧Aside0 (Kd.R k62 62 w' w.heap.size (fun k_=>k_≠gb) v3 x)∧Aside0 (Below w.heap.size w w'))
 case atStart=>exact⟨[],0,sr,H',⟨Nat.le_refl _⟩,⟨by exact sT BK.out⟩,⟨Kd.R_mono (sE HO.out) (fun _ m=>m.2)⟩,⟨sb⟩⟩
 case round=>(
 clear H' HO BK HB B D E F G I J K L O P Q T U V X Z aa ab ac
 obtain⟨x,i,rfl,HA,an,BK,HO,HB⟩:=hrel
 cases gk with
 |zero=>exact absurd HA.out (by simp[impl_Heap_reachable.c0])
 |succ k1=>(
 have H:=HA.out
 clear HA
 simp only[impl_Heap_reachable.c0]at H
 obtain⟨Ao,co,eo⟩:=Kd.R_slice HO.out
 subst eo
 obtain⟨B,D,E,F,G,I,J,K,L,O,P,Q,T,U,V,X,Z,aa,ab,ac⟩:=cells10 BK.out
 by_cases z:i<(o.f4.length:Int)
 ·(
 rw[if_pos z]at H
 by_cases c2:0≤i
 ·(
 rw[if_pos c2]at H
 by_cases c3:i<(o.f5.length:Int)
 ·(
 rw[if_pos c3]at H
 by_cases c6:x.length+2<3518437208883
 ·(
 rw[if_pos c6]at H
 obtain⟨ada,ea,ag,ah,ai,aj⟩:=at_T62 av.out i c2 z
 obtain⟨adb,eb,ao,ap,aq,ar⟩:=at_T62 aw.out i c2 c3
 cases ea
 cases eb
 have c1b:decide (i<(o.f4.length:Int))=true:=zT z
 have LM:=zM c6
 replace z:=eq_true z
 replace c2:=eq_true c2
 replace c3:=eq_true c3
 have H':=zM H
 clear H c6
 have y:=zM (And.intro ao (And.intro ap (And.intro aq ar)))
 replace ag:=sX HB ag
 replace ah:=sX HB ah
 replace ai:=sX HB ai
 replace aj:=sX HB aj
 clear ao ap aq ar
 replace HO:=zM (Kd.R_mono (Kd.R_bound HO.out) (fun k_ m=>(⟨m.1,m.2.2.1⟩:k_≠gb∧k_<wr.heap.size)))
 go_wp2_with (first|((with_reducible refine gate_dst (N:=5) rfl ?_);refine sV (N:=5) (cs:= #[.int .i64 0,.int .i64 0,.string ⟨#[]⟩,.int .i64 0]) (t:=62) ?_;intro q hg w8 hbox hb;obtain⟨ay,az,aA,aC,aD,aE,aG,aH⟩:=cells4 hbox;have HBX:=zM hbox;have HGB:=zM hg;have au:=zM hb;clear hbox hg hb))
 have g9:=zM (impl_Heap_reachable.set4_below (.int .i64 (rd_T62 o.f4 i).f0) (.int .i64 (rd_T62 o.f4 i).f1) (.string (rd_T62 o.f4 i).f2) (.int .i64 (rd_T62 o.f4 i).f3) au.out (g:=q) (by rw[HGB.out];exact Nat.le_refl _))
 have BX:=zM (sP4 (v0:= .int .i64 (rd_T62 o.f4 i).f0) (v1:= .int .i64 (rd_T62 o.f4 i).f1) (v2:= .string (rd_T62 o.f4 i).f2) (v3:= .int .i64 (rd_T62 o.f4 i).f3) HBX.out)
 clear ay az aA aC aD aE aG aH ag ah ai aj B D E F G I J K L O P Q T U V X Z aa ab ac HBX au
 generalize ((((w8.setCell ⟨q,0,none⟩ (.int .i64 (rd_T62 o.f4 i).f0)).setCell ⟨q,1,none⟩ (.int .i64 (rd_T62 o.f4 i).f1)).setCell ⟨q,2,none⟩ (.string (rd_T62 o.f4 i).f2)).setCell ⟨q,3,none⟩ (.int .i64 (rd_T62 o.f4 i).f3))=W1 at *
 replace BK:=sK BK g9.out
 replace HO:=zM (Kd.R_mono (Kd.R_below HO.out g9.out) (fun k_ m=>(⟨m.1,by have:=m.2;have:=HGB.out;omega⟩:k_≠gb∧k_≠q)))
 replace HB:=sB HB g9.out
 clear g9
 go_region_held3 (fun W=>W.cell? ⟨q,0,none⟩=some (.int .i64 (rd_T62 o.f4 i).f0)∧W.cell? ⟨q,1,none⟩=some (.int .i64 (rd_T62 o.f4 i).f1)∧W.cell? ⟨q,2,none⟩=some (.string (rd_T62 o.f4 i).f2)∧W.cell? ⟨q,3,none⟩=some (.int .i64 (rd_T62 o.f4 i).f3)∧W.cell? ⟨gb,5,none⟩=some (.slice (some adb) o.f5.length c5)∧W.cell? (adb.add (i.toNat*4))=some (.int .i64 (rd_T62 o.f5 i).f0)∧W.cell? ⟨(adb.add (i.toNat*4)).block,(adb.add (i.toNat*4)).off+1,none⟩=some (.int .i64 (rd_T62 o.f5 i).f1)∧W.cell? ⟨(adb.add (i.toNat*4)).block,(adb.add (i.toNat*4)).off+2,none⟩=some (.string (rd_T62 o.f5 i).f2)∧W.cell? ⟨(adb.add (i.toNat*4)).block,(adb.add (i.toNat*4)).off+3,none⟩=some (.int .i64 (rd_T62 o.f5 i).f3)) (first|exact⟨(blk_cell (sT BX.out) 0).trans rfl,(blk_cell (sT BX.out) 1).trans rfl,(blk_cell (sT BX.out) 2).trans rfl,(blk_cell (sT BX.out) 3).trans rfl,(blk_cell (sT BK.out) 5).trans rfl,sX ⟨sH HB.out⟩ y.out.1,sX ⟨sH HB.out⟩ y.out.2.1,sX ⟨sH HB.out⟩ y.out.2.2.1,sX ⟨sH HB.out⟩ y.out.2.2.2⟩|go_keep) (first|(refine Kd.R_append_rows_step k62 (w0:=w) w.heap.size (by rfl) (.tmp 20) (.tmp 27) 34 62 (.agg #[(.int .i64 0),(.int .i64 0),(.string ⟨#[]⟩),(.int .i64 0)]) 40 rfl Try.underlying34 info62 rfl (by decide) (by omega) (.slice Ao x.length co) x [rd_T62 o.f4 i,rd_T62 o.f5 i] _ _ _ (fun k_=>k_≠gb∧k_≠q) (fun _=>False) rfl rfl ?aO ?aR (fun _ _ h=>h) (fun _ h=>h.elim) ?aF ?aB ?aS ?aL ?_;(case aO=>exact sE HO.out);(case aR=>exact(Kd.R_reads' (impl_Heap_reachable.at_alloc k62 62 _ [rd_T62 o.f4 i,rd_T62 o.f5 i] _ (impl_Heap_reachable.two_reps _ _ _) (by simp))).2.2);(case aF=>exact fun k_ m=>(by have h1:=blk_lt BK.out;have h2:=blk_lt BX.out;have h3:W1.heap.size≤k_:=Nat.le_trans (by simp) m;exact⟨by omega,by omega⟩));(case aB=>exact sH HB.out);(case aS=>exact below_size (sH HB.out));(case aL=>have:=LM.out;show(x.length+2)*40≤_;omega);intro aI aJ ho hb hg hat;have BKn:=zM (blk_grown (sT BK.out) hg (fun m=>(HO.out.1 gb m.symm).1 rfl));have BXn:=zM (blk_grown (sT BX.out) hg (fun m=>(HO.out.1 q m.symm).2 rfl));clear HO HB BK BX;have HO:=zM ho;have HB:=zM hb;have BK:=BKn;have BX:=BXn;clear ho hb hg hat))
 go_wp2
 go_roundg k1
 case measure=>have:=an.out;omega
 case rel=>exact⟨_,(wrap64 (i+1)),sr,H',⟨by have:=an.out;omega⟩,⟨by exact sT BK.out⟩,⟨Kd.R_mono (sE HO.out) (fun _ m=>m.1)⟩,⟨sb⟩⟩)
 ·rw[if_neg c6]at H;cases H)
 ·rw[if_neg c3]at H;cases H)
 ·rw[if_neg c2]at H;cases H)
 ·(
 rw[if_neg z]at H
 obtain rfl:=zI H
 have c1b:decide (i<(o.f4.length:Int))=false:=zF z
 go_wp2_with (first|((with_reducible refine gate_dst (N:=33) rfl ?_);refine Kd.R_lit k62 _ 62 ?hg (N:=33) ?hd (xs:=[o.f6]) (inner:=[.int .i64 o.f6.f0,.int .i64 o.f6.f1,.string o.f6.f2,.int .i64 o.f6.f3]) (ok:=fun _=>True) (okp:=fun _=>True) ?hr ?hp (fun _ hk=>hk) trivial (Below.refl _ _) (Nat.le_refl _) (by simp) ?_;(case hd=>rfl);(case hg=>rfl);(case hr=>first|(go_simp;done)|(go_simp;rfl));(case hp=>exact impl_Heap_reachable.one_reps _ _);intro aX aK ho hb ae af;clear ae af;have ak:=zM ho;replace HO:=zM (Kd.R_below (sE HO.out) hb);replace HB:=sB HB hb;replace BK:=sK BK hb;clear ho hb;obtain⟨Ab,cb,ebb⟩:=Kd.R_slice ak.out;subst ebb)|((with_reducible refine gate_builtin (b:= .append) (xs:= #[.tmp 30,.tmp 33]) rfl ?_);at_builtin;refine Kd.R_append_rows k62 (w0:=w) w.heap.size rfl (.tmp 30) (.tmp 33) 34 62 (.agg #[(.int .i64 0),(.int .i64 0),(.string ⟨#[]⟩),(.int .i64 0)]) 40 rfl Try.underlying34 info62 rfl (by decide) (by omega) (.slice Ao x.length co) x [o.f6] _ _ _ (fun k_=>k_≠gb) (fun _=>False) rfl rfl ?aO ?aR (fun _ _ h=>h) (fun _ h=>h.elim) ?aF ?aB ?aS ?aL ?_;(case aO=>exact sE HO.out);(case aR=>exact sD ((Kd.R_reads' ak.out).2.2));(case aF=>exact fun k_ m=>(by have h1:=blk_lt BK.out;have h2:aK.heap.size≤k_:=m;omega));(case aB=>exact sH HB.out);(case aS=>exact below_size (sH HB.out));(case aL=>have:=HM.out;show(x.length+1)*40≤_;omega);intro aI aJ ho hb hg hat;clear HO HB ak;have HO:=zM ho;have HB:=zM hb;clear ho hb hg hat;obtain⟨aY,aZ,aM⟩:=Kd.R_slice HO.out;subst aM))
 go_ret
 have hrd:=Kd.R_reads' HO.out
 have hlen:(x++[o.f6]).length=x.length+1:=by simp
 rw[hlen]at hrd
 refine⟨_,_,by first|rfl|(rw[hlen]),by first|exact hrd.2.1|(rw[hlen];exact hrd.2.1),sH HB.out,fun W_ S hS hK=>by first|exact Kd.C_kept_own (Kd.R_mono (Kd.R_bound (sE HO.out)) (fun _ m=>m.2.1)) (fun k_ aN al=>by have:=(hS k_ al).2;omega) W_ hK|(have h9:=Kd.C_kept_own (Kd.R_mono (Kd.R_bound (sE HO.out)) (fun _ m=>m.2.1)) (fun k_ aN al=>by have:=(hS k_ al).2;omega) W_ hK;simpa using h9)⟩))))
 ·(
 rw[if_neg hk]at h
 have hkb:(o.f1 !=2)=true:=zX hk
 obtain rfl:=zI h
 clear h hk
 go_enter Try.func76,Try.ntmps76
 go_wp2_with (first|((with_reducible refine gate_dst (N:=1) rfl ?_);refine sV (N:=1) (cs:= #[.int .i64 o.f0,.int .i64 o.f1,.string o.f2,.int .i64 o.f3,.slice A4 o.f4.length c4,.slice A5 o.f5.length c5,.int .i64 o.f6.f0,.int .i64 o.f6.f1,.string o.f6.f2,.int .i64 o.f6.f3]) (t:=64) ?_;intro gb hg w3 hbox hb;have HGB:=zM hg;have BK:=zM hbox;replace HB:=sB HB hb;obtain⟨B,D,E,F,G,I,J,K,L,O,P,Q,T,U,V,X,Z,aa,ab,ac⟩:=cells10 hbox;clear hg hbox hb))
 go_ret
 exact⟨_,_,rfl,HL.out,sH HB.out,fun W_ S hS hK=>Kd.C_kept_came k62_heap HI.out (am.out.trans ((sH HB.out).mono am.out.size)) (fun k_ m=>(hS k_ m).1) W_ hK⟩)
def impl_Heap_reachable.v0 : Nat → List Int → List S62 → Int → Option (List Int)
 |0,_,_,_=>none
 |k+1,xs,l,i=>if i<(l.length:Int)then(if 0≤i then((impl_refers.f (rd_T62 l i).f0).bind fun t=>if t=true then((slices_Contains_int64_int64.f k xs (rd_T62 l i).f3).bind fun b=>if b=true then impl_Heap_reachable.v0 k xs l (wrap64 (i+1))else(if xs.length<17592186044416 then impl_Heap_reachable.v0 k (xs++[(rd_T62 l i).f3]) l (wrap64 (i+1))else none))else impl_Heap_reachable.v0 k xs l (wrap64 (i+1)))else none)else some xs
set_option maxHeartbeats 8000000 in
set_option maxRecDepth 100000 in
theorem impl_Heap_reachable.vcalls (k:Nat) (P0_:Nat→Prop) (gO:Nat) (v:Value) (xs:List Int) (A1:Option Addr) (c1:Nat) (l1:List S62) (r:List Int) (w0 w:World) (hB:Below w0.heap.size w0 w) (hgO:w0.heap.size≤gO) (hP:∀k_,P0_ k_→k_≠gO) (hbk:w.heap[gO]?=some (.cells #[v] 28 (0,0))) (ho:Kd.R (Kd.int .i64) 2 w w0.heap.size P0_ v xs) (hr1:∀T,Kept w T (fun k_=>P0_ k_∨k_=gO)→Kd.C k62 T A1 l1.length l1) (hc1:l1.length≤c1) (h:impl_Heap_reachable.v0 k xs l1 0=some r):
  Calls Try.prog 73 #[.slice A1 l1.length c1,.pointer (some ⟨gO,0,none⟩)] w fun e w'=>∃(u v':Value),e= .returned u∧w'.heap[gO]?=some (.cells #[v'] 28 (0,0))∧Kd.R (Kd.int .i64) 2 w' w0.heap.size (fun k_=>P0_ k_∨w.heap.size≤k_) v' r∧Below w0.heap.size w0 w'∧Kept w w' (fun k_=>P0_ k_∨k_=gO):=by
 have ab:=Try.underlying62
 have hgw:gO<w.heap.size:=blk_lt hbk
 have Z:=zM hr1
 have ac:=zM hc1
 have HB:=zM hB
 have BK:=zM hbk
 have HO:Aside0 (Kd.R (Kd.int .i64) 2 w w0.heap.size (fun k_=>P0_ k_∨w.heap.size≤k_) v xs):=⟨Kd.R_mono ho (fun _ m=> .inl m)⟩
 have HK:=zM (Kept.refl w (fun k_=>P0_ k_∨k_=gO))
 have H':=zM h
 have HP:=zM hP
 clear hr1 hc1 hB hbk ho h hP
 go_enter Try.func73,Try.ntmps73
 go_wp2
 go_loopg [7] k (fun kq v7 w'=>∃(i:Int) (v:Value) (x:List Int),v7= .int .i64 i∧Aside0 (impl_Heap_reachable.v0 kq x l1 i=some r)∧Aside0 (kq≤k)∧Aside0 (w'.heap[gO]?=some (.cells #[v] 28 (0,0)))∧Aside0 (Kd.R (Kd.int .i64) 2 w' w0.heap.size (fun k_=>P0_ k_∨w.heap.size≤k_) v x)∧Aside0 (Below w0.heap.size w0 w')∧Aside0 (Kept w w' (fun k_=>P0_ k_∨k_=gO)))
 case atStart=>exact⟨0,_,xs,sr,H',⟨Nat.le_refl _⟩,BK,HO,HB,HK⟩
 case round=>(
 clear H' HO BK HB HK
 obtain⟨i,v,x,rfl,HA,O,BK,HO,HB,HK⟩:=hrel
 cases gk with
 |zero=>exact absurd HA.out (by simp[impl_Heap_reachable.v0])
 |succ k1=>(
 have H:=HA.out
 clear HA
 simp only[impl_Heap_reachable.v0]at H
 obtain⟨Ao,co,eo⟩:=Kd.R_slice HO.out
 subst eo
 by_cases c1:i<(l1.length:Int)
 ·(
 rw[if_pos c1]at H
 by_cases P:0≤i
 ·(
 rw[if_pos P]at H
 obtain⟨t,AT,H⟩:=sO H
 obtain⟨ad,e0,ae,af,ag,ah⟩:=at_T62 (Kd.C_kept_now Z.out HK.out) i P c1
 cases e0
 have c1b:decide (i<(l1.length:Int))=true:=zT c1
 replace c1:=eq_true c1
 replace P:=eq_true P
 replace HO:=zM (Kd.R_mono (Kd.R_bound HO.out) (fun k_ m=>(⟨m.1,m.2.2.1⟩:(P0_ k_∨w.heap.size≤k_)∧k_<wr.heap.size)))
 have hgr:gO<wr.heap.size:=blk_lt BK.out
 replace HO:=zM (Kd.R_mono HO.out (fun k_ m=>(⟨m.1,m.2,m.1.elim (fun U=>HP.out k_ U) (fun U=>by omega)⟩:(P0_ k_∨w.heap.size≤k_)∧k_<wr.heap.size∧k_≠gO)))
 by_cases ct:t=true
 ·(
 subst ct
 rw[if_pos rfl]at H
 obtain⟨b,AB,H⟩:=sO H
 by_cases cb:b=true
 ·(
 subst cb
 rw[if_pos rfl]at H
 have H':=zM H
 clear H
 go_wp2_with (first|((with_reducible refine gate_dst (N:=4) rfl ?_);refine sV (N:=4) (cs:= #[.int .i64 0,.int .i64 0,.string ⟨#[]⟩,.int .i64 0]) (t:=62) ?_;intro gb hg V hbox hb;obtain⟨z,B,D,E,F,G,I,J⟩:=cells4 hbox;have HBX:=zM hbox;have HGB:=zM hg;have K:=zM hb;clear hbox hg hb)|(go_at_call 74;(with_reducible refine(impl_refers.calls (rd_T62 l1 i).f0 true _ AT.out).mono ?_);rintro e Q ⟨rfl,hd⟩;have L:=zM hd.below;have q:=zM (below_then (impl_Heap_reachable.set4_below _ _ _ _ K.out (by rw[HGB.out];exact Nat.le_refl _)) (Below.size (impl_Heap_reachable.set4_below _ _ _ _ K.out (by rw[HGB.out];exact Nat.le_refl _))) L.out);clear z B D E F G I J hd;replace BK:=sK BK q.out;replace HO:=zM (Kd.R_below HO.out q.out);replace HB:=sB HB q.out;replace HK:=zM (HK.out.below q.out);obtain⟨hcO,hfO⟩:=cells1 BK.out;obtain⟨z,B,D,E,F,G,I,J⟩:=cells4 (blk_below (sP4 HBX.out) L.out))|(go_at_call 45;(with_reducible refine(slices_Contains_int64_int64.calls k1 _ _ x (rd_T62 l1 i).f3 true _ ?sA ?sC AB.out).mono ?_);(case sA=>exact(Kd.R_reads' HO.out).2.2);(case sC=>exact(Kd.R_reads' HO.out).2.1);rintro e w' ⟨rfl,⟨aa,rfl⟩⟩))
 go_roundg k1
 case measure=>have:=O.out;omega
 case rel=>exact⟨_,_,x,sr,H',⟨by have:=O.out;omega⟩,⟨by exact sT BK.out⟩,⟨Kd.R_mono (sE HO.out) (fun _ m=>m.1)⟩,⟨sb⟩,⟨by first|exact HK.out|exact HK.out.drewN _⟩⟩)
 ·(
 rw[if_neg cb]at H
 replace cb:=zB cb
 subst cb
 by_cases cl:x.length<17592186044416
 ·(
 rw[if_pos cl]at H
 have LM:=zM cl
 have H':=zM H
 clear H cl
 go_wp2_with (first|((with_reducible refine gate_dst (N:=4) rfl ?_);refine sV (N:=4) (cs:= #[.int .i64 0,.int .i64 0,.string ⟨#[]⟩,.int .i64 0]) (t:=62) ?_;intro gb hg V hbox hb;obtain⟨z,B,D,E,F,G,I,J⟩:=cells4 hbox;have HBX:=zM hbox;have HGB:=zM hg;have K:=zM hb;clear hbox hg hb)|(go_at_call 74;(with_reducible refine(impl_refers.calls (rd_T62 l1 i).f0 true _ AT.out).mono ?_);rintro e Q ⟨rfl,hd⟩;have L:=zM hd.below;have q:=zM (below_then (impl_Heap_reachable.set4_below _ _ _ _ K.out (by rw[HGB.out];exact Nat.le_refl _)) (Below.size (impl_Heap_reachable.set4_below _ _ _ _ K.out (by rw[HGB.out];exact Nat.le_refl _))) L.out);clear z B D E F G I J hd;replace BK:=sK BK q.out;replace HO:=zM (Kd.R_below HO.out q.out);replace HB:=sB HB q.out;replace HK:=zM (HK.out.below q.out);obtain⟨hcO,hfO⟩:=cells1 BK.out;obtain⟨z,B,D,E,F,G,I,J⟩:=cells4 (blk_below (sP4 HBX.out) L.out))|(go_at_call 45;(with_reducible refine(slices_Contains_int64_int64.calls k1 _ _ x (rd_T62 l1 i).f3 false _ ?sA ?sC AB.out).mono ?_);(case sA=>exact(Kd.R_reads' HO.out).2.2);(case sC=>exact(Kd.R_reads' HO.out).2.1);rintro e w' ⟨rfl,⟨aa,rfl⟩⟩)|((with_reducible refine gate_builtin (b:= .append) (xs:= #[.tmp 21,.tmp 24]) rfl ?_);at_builtin;refine Kd.R_append (Kd.int .i64) (w0:=w0) w0.heap.size rfl (.tmp 21) (.tmp 24) 28 2 (.int .i64 0) 8 rfl Try.underlying28 info2 rfl (by decide) (by omega) (.slice Ao x.length co) x ((rd_T62 l1 i).f3) [.int .i64 ((rd_T62 l1 i).f3)] (fun k_=>(P0_ k_∨w.heap.size≤k_)∧k_≠gO) (fun _=>False) rfl rfl ?aP (fun _ hk=>hk.elim) ?aF ?aO ?aB ?aS ?aL ?_;(case aP=>exact rfl);(case aB=>exact(sH HB.out));(case aF=>exact(fun k_ hk=>⟨.inr (by have h1:=HK.out.1;have h2:Q.heap.size≤k_:=hk;omega),(by have h1:=blk_lt BK.out;have h2:Q.heap.size≤k_:=hk;omega)⟩));(case aO=>exact(Kd.R_mono (sE HO.out) (fun k_ m=>⟨m.1,by have:=m.2.2;exact this⟩)));(case aS=>exact(below_size (sH HB.out)));(case aL=>have:=LM.out;omega);intro ai aj ho hb hg hat;have HOn:=zM ho;have HBn:=zM hb;have BKn:=zM (blk_grown (g:=gO) (sT BK.out) hg (fun m=>by have:=(HO.out.1 gO m.symm).2.2;exact this rfl));have HKn:=zM (Kept.of_grown (S:=(fun k_=>P0_ k_∨k_=gO)) hg (by first|exact HK.out|exact HK.out.drewN _) (fun k_ e_=>((HO.out.1 k_ e_).1).elim (fun m=> .inl (.inl m)) .inr));clear z B D E F G I J hcO hfO ho hb hg hat;obtain⟨A9,c9,X⟩:=Kd.R_slice HOn.out;simp only[List.length_append,List.length_singleton]at X;subst X;obtain⟨hcO,hfO⟩:=cells1 BKn.out))
 go_roundg k1
 case measure=>have:=O.out;omega
 case rel=>exact⟨_,_,_,sr,H',⟨by have:=O.out;omega⟩,⟨blk_put BKn.out 0 _ rfl⟩,⟨Kd.R_mono (Kd.R_far (p:=⟨gO,0,none⟩) HOn.out (fun _ m=>m.2) _) (fun _ m=>m.1)⟩,⟨below_set HBn.out hgO⟩,⟨HKn.out.setCell (p:=⟨gO,0,none⟩) (.inl (.inr rfl)) _⟩⟩)
 ·rw[if_neg cl]at H;cases H))
 ·(
 rw[if_neg ct]at H
 replace ct:=zB ct
 subst ct
 have H':=zM H
 clear H
 go_wp2_with (first|((with_reducible refine gate_dst (N:=4) rfl ?_);refine sV (N:=4) (cs:= #[.int .i64 0,.int .i64 0,.string ⟨#[]⟩,.int .i64 0]) (t:=62) ?_;intro gb hg V hbox hb;obtain⟨z,B,D,E,F,G,I,J⟩:=cells4 hbox;have HBX:=zM hbox;have HGB:=zM hg;have K:=zM hb;clear hbox hg hb)|(go_at_call 74;(with_reducible refine(impl_refers.calls (rd_T62 l1 i).f0 false _ AT.out).mono ?_);rintro e Q ⟨rfl,hd⟩;have L:=zM hd.below;have q:=zM (below_then (impl_Heap_reachable.set4_below _ _ _ _ K.out (by rw[HGB.out];exact Nat.le_refl _)) (Below.size (impl_Heap_reachable.set4_below _ _ _ _ K.out (by rw[HGB.out];exact Nat.le_refl _))) L.out);clear z B D E F G I J hd;replace BK:=sK BK q.out;replace HO:=zM (Kd.R_below HO.out q.out);replace HB:=sB HB q.out;replace HK:=zM (HK.out.below q.out);obtain⟨hcO,hfO⟩:=cells1 BK.out;obtain⟨z,B,D,E,F,G,I,J⟩:=cells4 (blk_below (sP4 HBX.out) L.out)))
 go_roundg k1
 case measure=>have:=O.out;omega
 case rel=>exact⟨_,_,x,sr,H',⟨by have:=O.out;omega⟩,⟨by exact sT BK.out⟩,⟨Kd.R_mono (sE HO.out) (fun _ m=>m.1)⟩,⟨sb⟩,⟨by first|exact HK.out|exact HK.out.drewN _⟩⟩))
 ·rw[if_neg P]at H;cases H)
 ·(
 rw[if_neg c1]at H
 obtain rfl:=zI H
 have c1b:decide (i<(l1.length:Int))=false:=zF c1
 go_wp2
 (try simp only[Exit.inBlock,Exit.then])
 refine bodyPost_end (results_none rfl _ _ _) rfl ?_
 exact⟨⟨_,rfl⟩,_,BK.out,HO.out,HB.out,HK.out⟩)))
def impl_Heap_reachable.l0 : Nat → Int → List S64 → List Int → Int → Option (List Int)
 |0,_,_,_,_=>none
 |k+1,n,l,xs,i=>if i<(xs.length:Int)then(if 0≤i then((impl_Heap_find.f k n l (rd xs i)).bind fun t=>if 0≤t then(if t<(l.length:Int)then((impl_Heap_reachable.cf k [rd_T64 l t]).bind fun c=>(impl_Heap_reachable.v0 k xs c 0).bind fun s2=>impl_Heap_reachable.l0 k n l s2 (wrap64 (i+1)))else none)else none)else none)else some xs
def impl_Heap_reachable.f (k:Nat) (a0_0:Int) (l0_1:List S64) (l1:List S62):Option (List Int):=(impl_Heap_reachable.v0 k [] l1 0).bind fun s=>impl_Heap_reachable.l0 k a0_0 l0_1 s 0
set_option maxHeartbeats 8000000 in
set_option maxRecDepth 100000 in
theorem impl_Heap_reachable.calls (k:Nat) (a0:Int) (A1:Option Addr) (c1:Nat) (l1:List S64) (A2:Option Addr) (c2:Nat) (l2:List S62) (r:List Int) (w:World) (hr1:Kd.C k64 w A1 l1.length l1) (hc1:l1.length≤c1) (hr2:Kd.C k62 w A2 l2.length l2) (hc2:l2.length≤c2) (h:impl_Heap_reachable.f k a0 l1 l2=some r):
  Calls Try.prog 44 #[.agg #[.int .i64 a0,.slice A1 l1.length c1],.slice A2 l2.length c2] w fun e w'=>∃O:Value,e= .returned (O)∧Kd.R (Kd.int .i64) 2 w' w.heap.size (fun _=>True) O r∧Below w.heap.size w w':=by
 have az:=Try.underlying32
 have aA:=Try.underlying64
 have aC:=Try.underlying62
 have P:=zM hr1
 have ap:=zM hr2
 have aq:=zM hc1
 have ar:=zM hc2
 have HB:=zM (Below.refl w.heap.size w)
 obtain⟨Q,AV,H⟩:=sO (show(impl_Heap_reachable.v0 k [] l2 0).bind (fun s=>impl_Heap_reachable.l0 k a0 l1 s 0)=some r from h)
 have H':=zM H
 clear hr1 hr2 hc1 hc2 h H
 go_enter Try.func44,Try.ntmps44
 go_wp2_with (first|((with_reducible refine gate_dst (N:=2) rfl ?_);refine sV (N:=2) (cs:= #[.int .i64 a0,.slice A1 l1.length c1]) (t:=32) ?_;intro gb hg w3 hbox hb;have HGB:=zM hg;have BK:=zM hbox;replace HB:=sB HB hb;clear hg hbox hb)|((with_reducible refine gate_dst (N:=8) rfl ?_);refine Kd.R_lit (Kd.int .i64) _ 2 ?hg (N:=8) ?hd (xs:=([]:List Int)) (inner:=[]) (ok:=fun _=>True) (okp:=fun _=>True) ?hr ?hp (fun _ hk=>hk) trivial (Below.refl _ _) (Nat.le_refl _) (by simp) ?_;(case hd=>rfl);(case hg=>rfl);(case hr=>first|(go_simp;done)|(go_simp;rfl));(case hp=>exact(Reps.none _ _));intro v8 w8 ho hb au av;clear au av;have HO:=zM (Kd.R_lower (Kd.R_newB ho BK.out) HB.out.size);replace HB:=sB HB hb;replace BK:=sK BK hb;clear ho hb;obtain⟨D,E,e8⟩:=Kd.R_slice HO.out;subst e8)|((with_reducible refine gate_dst (N:=5) rfl ?_);refine sV (N:=5) (cs:= #[.slice none 0 0]) (t:=28) ?_;intro gO hgO w5 hbO hb;have HGO:=zM (show w.heap.size≤gO by rw[hgO];exact HB.out.size);have HNE:=zM (show gb≠gO by rw[hgO];have:=blk_lt BK.out;omega);have T:=zM (Kd.R_mono (Kd.R_bound HO.out) (fun m q=>(⟨q.1.2,by rw[hgO];have:=q.2.2.1;omega⟩:m≠gb∧m≠gO)));have HBO:=zM hbO;obtain⟨hcz,hfz⟩:=cells1 hbO;replace HB:=sB HB hb;replace BK:=sK BK hb;clear HO;have HO:=zM (Kd.R_below T.out hb);clear hgO hb hbO T)|(go_at_call 73;have J:=zM (blk_put HBO.out 0 (.slice D 0 E) rfl);have K:=zM (blk_far (p:=⟨gO,0,none⟩) BK.out HNE.out (.slice D 0 E));have U:=zM (Kd.R_mono (Kd.R_bound (Kd.R_far (p:=⟨gO,0,none⟩) HO.out (fun _ q=>q.2) (.slice D 0 E))) (fun m q=>(⟨q.1,q.2.1⟩:(m≠gb∧m≠gO)∧w.heap.size≤m)));have L:=zM (below_set (v:= .slice D 0 E) (j:=0) HB.out HGO.out);clear hcz hfz HBO BK HO HB;generalize w5.setCell ⟨gO,0,none⟩ (.slice D 0 E)=w6 at *;refine(impl_Heap_reachable.vcalls k (fun m=>(m≠gb∧m≠gO)∧w.heap.size≤m) gO _ [] A2 c2 l2 Q w _ L.out HGO.out (fun m q=>q.1.2) J.out U.out ?sR ar.out AV.out).mono ?_;(case sR=>exact Kd.C_kept_came k62_heap ap.out L.out (fun m q=>q.elim (fun z=>z.2) (fun z=>z▸HGO.out)));rintro e w7 ⟨u7,V,rfl,hbo,hro,hb,hk⟩;have BO:=zM hbo;have HO:=zM (Kd.R_mono hro (fun m q=>(q.elim (fun z=>z.1) (fun z=>⟨by have:=blk_lt K.out;omega,by have:=blk_lt J.out;omega⟩):m≠gb∧m≠gO)));have HB:=zM hb;have BK:=zM (blk_kept K.out hk (fun q=>q.elim (fun z=>z.1.1 rfl) (fun z=>HNE.out z)));clear J K U L hbo hro hb hk))
 go_loopg [7] k (fun kq V w'=>∃(i:Int) (v:Value) (x:List Int),V= .int .i64 i∧Aside0 (impl_Heap_reachable.l0 kq a0 l1 x i=some r)∧Aside0 (kq≤k)∧Aside0 (w'.heap[gb]?=some (.cells #[.int .i64 a0,.slice A1 l1.length c1] 32 (0,0)))∧Aside0 (w'.heap[gO]?=some (.cells #[v] 28 (0,0)))∧Aside0 (Kd.R (Kd.int .i64) 2 w' w.heap.size (fun m=>m≠gb∧m≠gO) v x)∧Aside0 (Below w.heap.size w w'))
 case atStart=>exact⟨0,_,Q,sr,H',⟨Nat.le_refl _⟩,⟨by exact sT BK.out⟩,⟨by exact sT BO.out⟩,⟨sE HO.out⟩,⟨sb⟩⟩
 case round=>(
 clear H' BK BO HO HB
 obtain⟨i,v,x,rfl,HA,X,BK,BO,HO,HB⟩:=hrel
 cases gk with
 |zero=>exact absurd HA.out (by simp[impl_Heap_reachable.l0])
 |succ k1=>(
 have H:=HA.out
 clear HA
 simp only[impl_Heap_reachable.l0]at H
 obtain⟨Ao,co,eo⟩:=Kd.R_slice HO.out
 subst eo
 obtain⟨hcO,hfO⟩:=cells1 BO.out
 by_cases B:i<(x.length:Int)
 ·(
 rw[if_pos B]at H
 by_cases F:0≤i
 ·(
 rw[if_pos F]at H
 obtain⟨t,AF,H⟩:=sO H
 by_cases G:0≤t
 ·(
 rw[if_pos G]at H
 by_cases I:t<(l1.length:Int)
 ·(
 rw[if_pos I]at H
 obtain⟨cc,AC,H⟩:=sO H
 obtain⟨s2,aw,H⟩:=sO H
 have H':=zM H
 clear H
 obtain⟨ado,A4,ax,A5,ay,eo,Z,aa,ab,ac,ae,af,ag,ah,ai,aj,ak,al,am,an⟩:=at_T64 P.out t G I
 cases eo
 have Y:=zM (And.intro Z (And.intro aa (And.intro ab (And.intro ac (And.intro ae (And.intro af (And.intro ag (And.intro ah (And.intro ai aj)))))))))
 have I4:=zM al
 have I5:=zM an
 have L4:=zM ak
 have L5:=zM am
 clear Z aa ab ac ae af ag ah ai aj ak al am an
 obtain⟨ads,es,hs⟩:=Kd.at_int ((Kd.R_reads' HO.out).2.2) i F B
 cases es
 have c1b:decide (i<(x.length:Int))=true:=zT B
 replace B:=eq_true B
 replace F:=eq_true F
 replace G:=eq_true G
 replace I:=eq_true I
 obtain⟨aD,aE,aG,aH⟩:=cells2 BK.out
 replace HO:=zM (Kd.R_mono (Kd.R_bound HO.out) (fun m q=>(⟨q.1,q.2.1,q.2.2.1⟩:(m≠gb∧m≠gO)∧w.heap.size≤m∧m<wr.heap.size)))
 have HGR:=zM (blk_lt BO.out)
 go_wp2
 go_region_with (first|(go_at_call 75;(with_reducible refine(impl_Heap_find.calls k1 a0 _ c1 l1 (rd x i) t _ ?sR aq.out AF.out).mono ?_);(case sR=>exact sD (zC P.out HB.out));rintro e w9 ⟨rfl,hb⟩;replace BK:=sK BK hb;replace BO:=sK BO hb;replace HO:=zM (Kd.R_below (sE HO.out) hb);replace HB:=sB HB hb;have ao:=zM (show wr.heap.size≤w9.heap.size from hb.size);clear hb;have aI:=sX HB Y.out.1;have aJ:=sX HB Y.out.2.1;have aK:=sX HB Y.out.2.2.1;have aM:=sX HB Y.out.2.2.2.1;have aN:=sX HB Y.out.2.2.2.2.1;have aQ:=sX HB Y.out.2.2.2.2.2.1;have aT:=sX HB Y.out.2.2.2.2.2.2.1;have aU:=sX HB Y.out.2.2.2.2.2.2.2.1;have aV:=sX HB Y.out.2.2.2.2.2.2.2.2.1;have aW:=sX HB Y.out.2.2.2.2.2.2.2.2.2;obtain⟨aX,aY,aZ,a2⟩:=cells2 BK.out)|(go_at_call 76;refine(impl_Heap_reachable.tcalls k1 (rd_T64 l1 t) A4 ax A5 ay cc w _ (sH HB.out) I4.out L4.out I5.out L5.out AC.out).mono ?_;rintro e a3 ⟨Ac,ca,rfl,hlc,hb,hkeep⟩;replace BK:=sK BK hb;replace BO:=sK BO hb;replace HO:=zM (Kd.R_below (sE HO.out) hb);replace HB:=sB HB hb;have HKC:=zM hkeep;have HLC:=zM hlc;clear hb hkeep hlc)|(go_at_call 73;refine(impl_Heap_reachable.vcalls k1 (fun m=>(m≠gb∧m≠gO)∧w.heap.size≤m∧m<wr.heap.size) gO (.slice (some ads) x.length co) x Ac ca cc s2 w _ ?sB HGO.out (fun m q=>q.1.2) ?sK ?sO ?sR HLC.out aw.out).mono ?_;(case sB=>exact sH HB.out);(case sK=>exact sT BO.out);(case sO=>exact sE HO.out);(case sR=>exact fun W_ hK=>HKC.out W_ _ (fun m q=>q.elim (fun z=>⟨z.2.1,by have:=z.2.2;have:=ao.out;omega⟩) (fun z=>⟨by rw[z];exact HGO.out,by rw[z];have:=HGR.out;have:=ao.out;omega⟩)) hK);rintro e a4 ⟨a5,a6,rfl,hbo,hro,hb,hk⟩;have BOn:=zM hbo;have HOn:=zM (Kd.R_mono hro (fun m q=>(q.elim (fun z=>z.1) (fun z=>⟨by have:=blk_lt BK.out;omega,by have:=blk_lt BO.out;omega⟩):m≠gb∧m≠gO)));have BKn:=zM (blk_kept BK.out hk (fun q=>q.elim (fun z=>z.1.1 rfl) (fun z=>HNE.out z)));clear BK BO HO HB;have BK:=BKn;have BO:=BOn;have HO:=HOn;have HB:=zM hb;clear hbo hro hb hk BKn BOn HOn))
 all_goals go_wp2
 all_goals(go_roundg k1;(case measure=>have:=X.out;omega);(case rel=>exact⟨_,_,_,sr,H',⟨by have:=X.out;omega⟩,⟨by exact sT BK.out⟩,⟨by exact sT BO.out⟩,⟨sE HO.out⟩,⟨sb⟩⟩)))
 ·rw[if_neg I]at H;cases H)
 ·rw[if_neg G]at H;cases H)
 ·rw[if_neg F]at H;cases H)
 ·(
 rw[if_neg B]at H
 obtain rfl:=zI H
 have c1b:decide (i<(x.length:Int))=false:=zF B
 go_wp2
 go_ret
 exact⟨_,rfl,Kd.R_mono (sE HO.out) (fun _ _=>trivial),sH HB.out⟩)))
end Go.Proofs.Ytpdljgieaaicpaa.PFnExactGarbage
