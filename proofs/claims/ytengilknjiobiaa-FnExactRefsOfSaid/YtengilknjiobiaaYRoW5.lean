/- Words of the print, and of mine. -/
import Derived.Shelf.SlGeneric
import Derived.Shelf.SlicesG.CompactI
import Derived.Shelf.SortM.Plain
import Derived.Shelf.SortM.SortNone
import Derived.Test.YtengilknjiobiaaProg
import Derived.Test.YtengilknjiobiaaYRoW4
section
namespace Go.Proofs
open Go.Shelf Go.RowKit Go.Lib Go.Sort
def Try.laysSlN43_f96_ren:Go.Shelf.Ren:=⟨fun|43=>96|n=>n,fun|22=>53|23=>2|3=>3|4=>4|0=>0|n=>n,fun|n=>n⟩
theorem Try.laysSlN43_f96 : Go.Proofs.SlLaysN.n43 Try.prog Try.laysSlN43_f96_ren := {
  mixed:=by kernel_rfl
  f43:=⟨Try.f96.name,by decide,Try.func96.trans (congrArg some (by kernel_rfl))⟩
  t0:=Try.underlying0
  a0:=Try.isAgg0
  z0:=Try.sizeOf0
  v0:=Try.zeroValue0
  t3:=Try.underlying3
  a3:=Try.isAgg3
  z3:=Try.sizeOf3
  v3:=Try.zeroValue3
  t4:=Try.underlying4
  a4:=Try.isAgg4
  z4:=Try.sizeOf4
  v4:=Try.zeroValue4
  t22:=Try.underlying53
  a22:=Try.isAgg53
  z22:=Try.sizeOf53
  v22:=Try.zeroValue53
  t23:=Try.underlying2
  a23:=Try.isAgg2
  z23:=Try.sizeOf2
  v23:=Try.zeroValue2
  i23:=by kernel_rfl}
theorem Try.slices_Compact_int (blk off cap:Nat) (zs:List Int) (w:World) (hH:Holds (Value.int .i64) w blk off zs.toArray) (hsz:zs.length≤9223372036854775807) (hcap:zs.length≤cap):
    Calls Try.prog 96 #[.slice (some ⟨blk,off,none⟩) zs.length cap] w fun e w'=>e= .returned (.slice (some ⟨blk,off,none⟩) (Lib.compact zs).length cap)∧∃q,w'=putRow (Value.int .i64) (Sort.ahead w q) blk off (Lib.compact zs++List.replicate (zs.length-(Lib.compact zs).length) 0).toArray:=AnyG.slices_Compact_int Try.laysSlN43_f96 blk off cap zs w hH hsz hcap
theorem Try.slices_Compact_int_empty (a:Option Addr) (cap:Nat) (w:World):
    Calls Try.prog 96 #[.slice a 0 cap] w fun e w'=>e= .returned (.slice a 0 cap)∧w'=w:=AnyG.slices_Compact_int_empty Try.laysSlN43_f96 a cap w
def Try.laysSlM5_f95_ren:Go.Shelf.Ren:=⟨fun|5=>95|8=>119|7=>118|19=>136|20=>137|10=>127|11=>128|12=>129|13=>130|14=>131|15=>132|16=>133|17=>134|18=>135|30=>138|31=>139|32=>140|33=>141|34=>142|35=>122|40=>143|n=>n,fun|23=>53|25=>2|3=>3|32=>134|22=>53|0=>0|44=>146|46=>148|4=>4|36=>139|35=>138|41=>120|5=>5|9=>9|53=>149|57=>153|63=>155|64=>156|n=>n,fun|n=>n⟩
theorem Try.laysSlM5_f95 : Go.Proofs.SlLaysM.n5 Try.prog Try.laysSlM5_f95_ren := {
  mixed:=by kernel_rfl
  f5:=⟨Try.f95.name,by decide,Try.func95.trans (congrArg some (by kernel_rfl))⟩
  f7:=⟨Try.f118.name,by decide,Try.func118.trans (congrArg some (by kernel_rfl))⟩
  f8:=Try.func119.trans (congrArg some (by kernel_rfl))
  f10:=⟨Try.f127.name,by decide,Try.func127.trans (congrArg some (by kernel_rfl))⟩
  f11:=⟨Try.f128.name,by decide,Try.func128.trans (congrArg some (by kernel_rfl))⟩
  f12:=⟨Try.f129.name,by decide,Try.func129.trans (congrArg some (by kernel_rfl))⟩
  f13:=⟨Try.f130.name,by decide,Try.func130.trans (congrArg some (by kernel_rfl))⟩
  f14:=⟨Try.f131.name,by decide,Try.func131.trans (congrArg some (by kernel_rfl))⟩
  f15:=⟨Try.f132.name,by decide,Try.func132.trans (congrArg some (by kernel_rfl))⟩
  f16:=⟨Try.f133.name,by decide,Try.func133.trans (congrArg some (by kernel_rfl))⟩
  f17:=⟨Try.f134.name,by decide,Try.func134.trans (congrArg some (by kernel_rfl))⟩
  f18:=⟨Try.f135.name,by decide,Try.func135.trans (congrArg some (by kernel_rfl))⟩
  f19:=Try.func136.trans (congrArg some (by kernel_rfl))
  f20:=Try.func137.trans (congrArg some (by kernel_rfl))
  f30:=⟨Try.f138.name,by decide,Try.func138.trans (congrArg some (by kernel_rfl))⟩
  f31:=Try.func139.trans (congrArg some (by kernel_rfl))
  f32:=Try.func140.trans (congrArg some (by kernel_rfl))
  f33:=⟨Try.f141.name,by decide,Try.func141.trans (congrArg some (by kernel_rfl))⟩
  f34:=⟨Try.f142.name,by decide,Try.func142.trans (congrArg some (by kernel_rfl))⟩
  f35:=⟨Try.f122.name,by decide,Try.func122.trans (congrArg some (by kernel_rfl))⟩
  f40:=⟨Try.f143.name,by decide,Try.func143.trans (congrArg some (by kernel_rfl))⟩
  t0:=Try.underlying0
  a0:=Try.isAgg0
  z0:=Try.sizeOf0
  v0:=Try.zeroValue0
  t3:=Try.underlying3
  a3:=Try.isAgg3
  z3:=Try.sizeOf3
  v3:=Try.zeroValue3
  t4:=Try.underlying4
  a4:=Try.isAgg4
  z4:=Try.sizeOf4
  v4:=Try.zeroValue4
  t5:=Try.underlying5
  a5:=Try.isAgg5
  z5:=Try.sizeOf5
  v5:=Try.zeroValue5
  t9:=Try.underlying9
  a9:=Try.isAgg9
  z9:=Try.sizeOf9
  v9:=Try.zeroValue9
  t22:=Try.underlying53
  a22:=Try.isAgg53
  z22:=Try.sizeOf53
  v22:=Try.zeroValue53
  t23:=Try.underlying53
  a23:=Try.isAgg53
  z23:=Try.sizeOf53
  v23:=Try.zeroValue53
  t25:=Try.underlying2
  a25:=Try.isAgg2
  z25:=Try.sizeOf2
  v25:=Try.zeroValue2
  t32:=Try.underlying134
  a32:=Try.isAgg134
  z32:=Try.sizeOf134
  v32:=Try.zeroValue134
  t35:=Try.underlying138
  a35:=Try.isAgg138
  z35:=Try.sizeOf138
  v35:=Try.zeroValue138
  t36:=Try.underlying139
  a36:=Try.isAgg139
  z36:=Try.sizeOf139
  v36:=Try.zeroValue139
  t41:=Try.underlying120
  a41:=Try.isAgg120
  z41:=Try.sizeOf120
  v41:=Try.zeroValue120
  t44:=Try.underlying146
  a44:=Try.isAgg146
  z44:=Try.sizeOf146
  v44:=Try.zeroValue146
  t46:=Try.underlying148
  a46:=Try.isAgg148
  z46:=Try.sizeOf148
  v46:=Try.zeroValue148
  t53:=Try.underlying149
  a53:=Try.isAgg149
  z53:=Try.sizeOf149
  v53:=Try.zeroValue149
  t57:=Try.underlying153
  a57:=Try.isAgg153
  z57:=Try.sizeOf153
  v57:=Try.zeroValue153
  t63:=Try.underlying155
  a63:=Try.isAgg155
  z63:=Try.sizeOf155
  v63:=Try.zeroValue155
  t64:=Try.underlying156
  a64:=Try.isAgg156
  z64:=Try.sizeOf156
  v64:=Try.zeroValue156}
theorem Try.slices_Sort_int (blk off cap:Nat) (zs:List Int) (w:World) (hH:Holds (Value.int .i64) w blk off zs.toArray) (hblk:blk<w.heap.size) (hsz:zs.length<4611686018427387904):
    Calls Try.prog 95 #[.slice (some ⟨blk,off,none⟩) zs.length cap] w fun e w'=>
      e= .returned (.tuple #[])∧∃n os,w'=grow (putRow (Value.int .i64) (Sort.ahead w n) blk off (zs.mergeSort fun x y=>decide (x≤y)).toArray) os:=AnyM.slices_Sort_int Try.laysSlM5_f95 blk off cap zs w hH hblk hsz
theorem Try.slices_Sort_int_none (p:Option Addr) (cap:Nat) (w:World):
    Calls Try.prog 95 #[.slice p 0 cap] w fun e w'=>e= .returned (.tuple #[])∧w'=w:=AnyM.slices_Sort_int_none Try.laysSlM5_f95 p cap w
end Go.Proofs
namespace Go.Proofs.YtengilknjiobiaaG
open Go Go.RowKit Go.Sort Go.Proofs.YtengilknjiobiaaW.PrintWords Go.Proofs.YtengilknjiobiaaW.PrintLast Go.Proofs.YtengilknjiobiaaW.PrintMore
set_option linter.unusedSimpArgs false
set_option linter.unusedVariables false
theorem intRow_in {w:World} {base e:Nat} {P:Nat→Prop} {u:Value} {l:List Int} (h:Kd.R (Kd.int .i64) e w base P u l):
    (u= .slice none 0 0∧l=[])∨∃g cap cur,u= .slice (some ⟨g,0,none⟩) l.length cap∧P g∧base≤g∧w.heap[g]?=some (.cells cur e (0,0))∧l.length≤cap∧cap≤maxLen∧cur.size=cap∧cur.toList.take l.length=l.map (Value.int .i64):=by
  obtain⟨hP,inner,⟨hlen,ho⟩,hr⟩:=h
  have hl1:inner.length=l.length:=by rw[hlen];exact Nat.mul_one _
  have hi:inner=l.map (Value.int .i64):=by
    apply List.ext_getElem?
    intro j
    by_cases hj:j<l.length
    · have h2 : (inner.drop (j * 1)).take 1 = [Value.int .i64 l[j]] := hr.2 j l[j] (List.getElem?_eq_getElem hj)
      rw[Nat.mul_one,List.drop_eq_getElem_cons (by omega)]at h2
      rw[List.getElem?_eq_getElem (by omega),List.getElem?_map,List.getElem?_eq_getElem hj]
      simp only[List.take_succ_cons,List.take_zero]at h2
      rw[(List.cons.inj h2).1]
      rfl
    · rw[List.getElem?_eq_none (by omega),List.getElem?_eq_none (by rw[List.length_map];omega)]
  rcases ho with⟨h1,h2⟩|⟨g,cap,cur,hv,hb,hg,hn,hc,hs,ht⟩
  · exact .inl ⟨h1,List.eq_nil_of_length_eq_zero h2⟩
  · refine .inr ⟨g, cap, cur, hv, hP g (by rw [hv]; rfl), hb, hg, hn, hc, by rw [hs]; exact Nat.mul_one _, ?_⟩
    have ht2:cur.toList.take (l.length*1)=inner:=ht
    rw[Nat.mul_one]at ht2
    rw[ht2,hi]
theorem intRow_out {w : World} {base e : Nat} {P : Nat → Prop} {l : List Int} {g cap : Nat} {cur : Array Value} (hP : P g) (hb : base ≤ g) (hg : w.heap[g]? = some (.cells cur e (0, 0))) (hn : l.length ≤ cap) (hc : cap ≤ maxLen) (hs : cur.size = cap)
    (ht:cur.toList.take l.length=l.map (Value.int .i64)):Kd.R (Kd.int .i64) e w base P (.slice (some ⟨g,0,none⟩) l.length cap) l:=by
  refine⟨fun k hk=>?_,l.map (Value.int .i64),⟨by rw[List.length_map];exact(Nat.mul_one _).symm,.inr ⟨g,cap,cur,rfl,hb,hg,hn,hc,by rw[hs];exact(Nat.mul_one _).symm,?_⟩⟩,⟨by rw[List.length_map];exact(Nat.mul_one _).symm,fun j p hj=>?_⟩⟩
  · have : g = k := by simpa [Value.ownBlock] using hk
    rw[←this];exact hP
  · show cur.toList.take (l.length * 1) = _
    rw[Nat.mul_one];exact ht
  · obtain ⟨hlt, hp⟩ := List.getElem?_eq_some_iff.1 hj
    show(((l.map (Value.int .i64)).drop (j*1)).take 1)=[Value.int .i64 p]
    rw[Nat.mul_one,List.drop_eq_getElem_cons (by rw[List.length_map];omega),List.getElem_map,hp]
    rfl
theorem row_holds {w:World} {g e cap:Nat} {cur:Array Value} {l:List Int} (hg:w.heap[g]?=some (.cells cur e (0,0))) (hn:l.length≤cap) (hs:cur.size=cap) (ht:cur.toList.take l.length=l.map (Value.int .i64)):Holds (Value.int .i64) w g 0 l.toArray:=by
  intro j hj
  have hj':j<l.length:=by simpa using hj
  refine⟨?_,?_⟩
  · have h1 : (cur.toList.take l.length)[j]? = some (Value.int .i64 l[j]) := by rw [ht, List.getElem?_map, List.getElem?_eq_getElem hj']; rfl
    rw[List.getElem?_take_of_lt hj']at h1
    have h2:cur[j]?=some (Value.int .i64 l[j]):=by simpa using h1
    rw[Nat.zero_add]
    unfold World.cell?
    simp only[hg]
    simp[h2,getElem!_pos,hj']
  · simp only [World.frozen?, hg]
    simp
theorem putRow_heap {w:World} {g e n:Nat} {cur:Array Value} {fz:Nat×Nat} (hg:w.heap[g]?=some (.cells cur e fz)) (d:Array Int) (os:Array Obj):
    (grow (putRow (Value.int .i64) (Sort.ahead w n) g 0 d) os).heap[g]?=some (.cells (putCells (Value.int .i64) 0 d cur) e fz):=by
  have hlt:g<w.heap.size:=by
    rcases Nat.lt_or_ge g w.heap.size with h|h
    · exact h
    · rw[Array.getElem?_eq_none h]at hg;cases hg
  have hg2:=hg
  rw[Array.getElem?_eq_getElem hlt]at hg2
  show((w.heap.modify g (onCells (putCells (Value.int .i64) 0 d)))++os)[g]?=_
  rw[Array.getElem?_append_left (by simpa using hlt),Array.getElem?_modify]
  simp[hg,onCells]
theorem putRow_other {w:World} {g n k:Nat} (d:Array Int) (os:Array Obj) (hk:k≠g) (hlt:k<w.heap.size):
    (grow (putRow (Value.int .i64) (Sort.ahead w n) g 0 d) os).heap[k]?=w.heap[k]?:=by
  show((w.heap.modify g (onCells (putCells (Value.int .i64) 0 d)))++os)[k]?=_
  rw[Array.getElem?_append_left (by simpa using hlt),Array.getElem?_modify,if_neg (fun h=>hk h.symm)]
theorem putCells_size (d:Array Int) (cur:Array Value):(putCells (Value.int .i64) 0 d cur).size=cur.size:=by
  unfold putCells;simp
theorem putCells_take (d:List Int) (m:List Int) (cur:Array Value) (hd:(d++m).length≤cur.size):(putCells (Value.int .i64) 0 (d++m).toArray cur).toList.take d.length=d.map (Value.int .i64):=by
  rw[List.length_append]at hd
  apply List.ext_getElem?
  intro j
  by_cases hj:j<d.length
  · rw [List.getElem?_take_of_lt hj, List.getElem?_map, List.getElem?_eq_getElem hj]
    have h1:(putCells (Value.int .i64) 0 (d++m).toArray cur)[j]?=some (Value.int .i64 d[j]):=by
      unfold putCells
      rw[Array.getElem?_mapIdx,Array.getElem?_eq_getElem (by omega)]
      simp[hj,show j<d.length+m.length by omega,getElem!_pos,List.getElem_append_left hj]
    simpa using h1
  · rw[List.getElem?_eq_none (by rw[List.length_take];omega),List.getElem?_eq_none (by rw[List.length_map];omega)]
theorem put_row {w0 w : World} {e g cap n : Nat} {cur : Array Value} {P : Nat → Prop} (d m : List Int) (os : Array Obj) (hB : Below w0.heap.size w0 w) (hP : P g) (hb : w0.heap.size ≤ g) (hg : w.heap[g]? = some (.cells cur e (0, 0)))
    (hn:(d++m).length≤cap) (hc:cap≤maxLen) (hs:cur.size=cap):
    Kd.R (Kd.int .i64) e (grow (putRow (Value.int .i64) (Sort.ahead w n) g 0 (d++m).toArray) os) w0.heap.size P (.slice (some ⟨g,0,none⟩) d.length cap) d∧Below w0.heap.size w0 (grow (putRow (Value.int .i64) (Sort.ahead w n) g 0 (d++m).toArray) os)∧
    Kept w (grow (putRow (Value.int .i64) (Sort.ahead w n) g 0 (d++m).toArray) os) P:=by
  have hsz:w.heap.size≤(grow (putRow (Value.int .i64) (Sort.ahead w n) g 0 (d++m).toArray) os).heap.size:=by
    show w.heap.size≤((w.heap.modify g _)++os).size
    simp
  refine⟨intRow_out hP hb (putRow_heap hg _ os) (by rw[List.length_append]at hn;omega) hc (by rw[putCells_size,hs]) (putCells_take d m cur (by rw[hs];exact hn)),⟨hB.os,hB.tape,hB.output,Nat.le_trans hB.size hsz,fun k hk=>?_⟩,⟨hsz,fun k hk hnk=>?_⟩⟩
  · exact(putRow_other _ os (by omega) (Nat.lt_of_lt_of_le hk hB.size)).trans (hB.block k hk)
  · exact putRow_other _ os (fun h=>hnk (h▸hP)) hk
end Go.Proofs.YtengilknjiobiaaG
end
