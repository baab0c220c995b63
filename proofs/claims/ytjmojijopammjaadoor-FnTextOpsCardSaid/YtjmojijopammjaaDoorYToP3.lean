/- Printed functions: impl_ReverseText, strings_TrimRight, impl_TrimText, impl_within. -/
import Derived.Test.YtjmojijopammjaaDoorYToP0
namespace Go.Proofs.YtjmojijopammjaaDoor.PFnTextOps
open Go.RowKit Go.Proofs.YtjmojijopammjaaDoorG Go.Proofs.YtjmojijopammjaaDoorW.PrintWords Go.Proofs.YtjmojijopammjaaDoorW.PrintLast Go.Proofs.YtjmojijopammjaaDoorW.PrintMore
attribute [local go_sem] max2_int min2_int max_two min_two max_three min_three max_four min_four
set_option linter.unusedVariables false
set_option linter.unusedSimpArgs false
def impl_ReverseText.rv : Nat → List Int → Int → Int → Option (List Int)
 |0,_,_,_=>none
 |k+1,xs,i,j=>if i<j then(if 0≤i then(if j<(xs.length:Int)then(impl_ReverseText.rv k ((xs.set i.toNat (rd xs j)).set j.toNat (rd xs i)) (wrap64 (i+1)) (wrap64 (j- 1)))else none)else none)else(some xs)
def impl_ReverseText.f (k:Nat) (a0:ByteArray):Option ByteArray:=if a0.size≤9223372036854775807 then((impl_ReverseText.rv k (bytesOf a0) 0 (wrap64 ((a0.size:Int)- 1))).bind fun xs=>(some (strOfNums xs)))else none
def impl_ReverseText.Row (w':World) (g N:Nat) (xs:List Int):Prop:=∃cs:Array Value,w'.heap[g]?=some (.cells cs 5 (N,N+1))∧cs.size=N∧xs.length≤N∧(∀(j:Nat) (x:Int),xs[j]?=some x→cs[j]?=some (.int .u8 x))∧∀x,x∈xs→0≤x∧x≤255
theorem impl_ReverseText.row_new (w:World) (s:ByteArray):impl_ReverseText.Row (Lib.bytesWorld w 5 s) w.heap.size (Lib.bytesCells w 5 s).size (bytesOf s):=by
 refine⟨_,Lib.bytesWorld_at_new w _ s,rfl,?_,fun j x hj=>?_,fun x hx=>?_⟩
 ·rw[bytes_len];simp only[Lib.bytesCells,Array.size_append,Array.size_map];exact Nat.le_add_right _ _
 ·(
 have hc:=Lib.bytesWorld_cell w 5 s j (by have:=(List.getElem?_eq_some_iff.1 hj).1;rwa [bytes_len]at this)
 unfold World.cell? at hc
 rw[Lib.bytesWorld_at_new]at hc
 have hx:x=((s.data.toList.getD j 0).toNat:Int):=by(
 simp[bytesOf]at hj
 obtain⟨b,a,rfl⟩:=hj
 simp[List.getD_eq_getElem?_getD,a])
 rw[hx]
 exact hc)
 ·(
 simp only[bytesOf,List.mem_map]at hx
 obtain⟨b,_,rfl⟩:=hx
 have:=b.toNat_lt
 omega)
theorem impl_ReverseText.row_below {w1 w2:World} {g N:Nat} {xs:List Int} (h:impl_ReverseText.Row w1 g N xs) (hb:Below w1.heap.size w1 w2):impl_ReverseText.Row w2 g N xs:=by
 obtain⟨cs,a,d⟩:=h
 exact⟨cs,(hb.block g (blk_lt a)).trans a,d⟩
theorem impl_ReverseText.row_cell {w1:World} {g N:Nat} {xs:List Int} (h:impl_ReverseText.Row w1 g N xs) (i:Int) (h0:0≤i) (h1:i<(xs.length:Int)):w1.cell? ⟨g,i.toNat,none⟩=some (.int .u8 (rd xs i))∧w1.frozen? ⟨g,i.toNat,none⟩=false∧0≤rd xs i∧rd xs i≤255:=by
 obtain⟨cs,a,m,o,d,l⟩:=h
 have hlt:i.toNat<xs.length:=by omega
 have hr:xs[i.toNat]?=some (rd xs i):=by(
 unfold rd
 rw[List.getD_eq_getElem?_getD,List.getElem?_eq_getElem hlt];rfl)
 have hm:=l _ (List.mem_of_getElem? hr)
 refine⟨?_,?_,hm.1,hm.2⟩
 ·rw[cell_of_row w1 g i.toNat cs _ _ a];exact d _ _ hr
 ·(
 simp only[World.frozen?,a]
 simp;omega)
theorem impl_ReverseText.row_put {w1:World} {g N:Nat} {xs:List Int} (h:impl_ReverseText.Row w1 g N xs) (i:Nat) (v:Int) (h0:0≤v) (h1:v≤255):impl_ReverseText.Row (w1.setCell ⟨g,i,none⟩ (.int .u8 v)) g N (xs.set i v):=by
 obtain⟨cs,a,d,l,m,o⟩:=h
 refine⟨cs.setIfInBounds i (.int .u8 v),by simp[World.setCell,Array.getElem?_modify,a],by simpa using d,by simpa using l,fun j x hj=>?_,fun x hx=>?_⟩
 ·(
 rw[List.getElem?_set]at hj
 rw[Array.getElem?_setIfInBounds]
 split at hj
 ·(
 rename_i e
 subst e
 split at hj
 ·(
 rename_i hlt
 obtain rfl:=zI hj
 rw[if_pos rfl,if_pos (by omega)])
 ·cases hj)
 ·(
 rename_i e
 rw[if_neg e]
 exact m j x hj))
 ·(
 rcases List.mem_or_eq_of_mem_set hx with h|rfl
 ·exact o x h
 ·exact⟨h0,h1⟩)
theorem impl_ReverseText.row_back {P:Program} {w1:World} {g N c:Nat} {xs:List Int} (h:impl_ReverseText.Row w1 g N xs) (hs:P.underlying 51=some (.slice 5)) (he:P.underlying 5=some (.int .u8)) (hd:P.underlying 9=some .string):(convert 51 9 (.slice (some ⟨g,0,none⟩) xs.length c)).run P w1= .ok (.string (strOfNums xs)) w1:=by
 obtain⟨cs,a,m,o,d,l⟩:=h
 have hl:(xs.map fun x=>UInt8.ofNat x.toNat).length=xs.length:=by simp
 have:=run_convert_bytes_back (P:=P) w1 51 9 5 ⟨g,0,none⟩ c (xs.map fun x=>UInt8.ofNat x.toNat) hs he hd (fun j hj=>by(
 have hj':j<xs.length:=by simpa using hj
 have hm:=l xs[j] (List.getElem_mem hj')
 rw[add_plain,cell_of_row w1 g _ cs _ _ a,d j xs[j] (List.getElem?_eq_getElem hj'),List.getElem_map]
 have:((UInt8.ofNat xs[j].toNat).toNat:Int)=xs[j]:=by rw[UInt8.toNat_ofNat_of_lt' (by show xs[j].toNat<256;omega)];omega
 rw[this]))
 rw[hl]at this
 rw[this]
 rfl
set_option maxHeartbeats 4000000 in
set_option maxRecDepth 100000 in
theorem impl_ReverseText.rev (k:Nat) (w:World) (g N:Nat) (xs ys:List Int) (c:Nat) (hR:impl_ReverseText.Row w g N xs) (h:impl_ReverseText.rv k xs 0 (wrap64 ((xs.length:Int)- 1))=some ys):
  Calls Tryd.prog 77 #[.slice (some ⟨g,0,none⟩) xs.length c] w fun e w'=>e= .returned (.tuple #[])∧impl_ReverseText.Row w' g N ys∧ys.length=xs.length∧∀B,B≤g→Below B w w':=by
 have HR:=zM hR
 have H':=zM h
 have HB:Aside0 (∀B,B≤g→Below B w w):=⟨fun B _=>Below.refl _ _⟩
 clear h hR
 obtain⟨n,HL⟩:∃n,Aside0 (xs.length=n):=⟨_,⟨rfl⟩⟩
 rw[HL.out]at H' ⊢
 go_enter Tryd.func77,Tryd.ntmps77
 go_wp2
 go_loopg [2,3] k (fun kq o q w'=>∃(i j:Int) (zs:List Int),o= .int .i64 i∧q= .int .i64 j∧Aside0 (impl_ReverseText.rv kq zs i j=some ys)∧Aside0 (kq≤k)∧Aside0 (∀B,B≤g→Below B w w')∧Aside0 (impl_ReverseText.Row w' g N zs)∧Aside0 (zs.length=n))
 case atStart=>exact⟨0,_,xs,rfl,rfl,H',⟨Nat.le_refl _⟩,HB,HR,HL⟩
 case round=>(
 clear H' HR HB HL
 obtain⟨i,j,zs,rfl,rfl,HA,m,HB,HR,HL⟩:=hrel
 cases gk with
 |zero=>exact absurd HA.out (by simp[impl_ReverseText.rv])
 |succ k1=>(
 have H:=HA.out
 clear HA
 simp only[impl_ReverseText.rv]at H
 have hl:=HL.out
 by_cases a:i<j
 ·(
 rw[if_pos a]at H
 by_cases d:0≤i
 ·(
 rw[if_pos d]at H
 by_cases l:j<(zs.length:Int)
 ·(
 rw[if_pos l]at H
 obtain⟨hci,hfi,t,u⟩:=impl_ReverseText.row_cell HR.out i d (by omega)
 obtain⟨hcj,hfj,y,z⟩:=impl_ReverseText.row_cell HR.out j (by omega) l
 have c4b:decide (i<j)=true:=zT a
 have A:(0≤i)=True:=eq_true d
 have C:(i<(n:Int))=True:=eq_true (by omega)
 have D:(0≤j)=True:=eq_true (by omega)
 have E:(j<(n:Int))=True:=eq_true (by omega)
 have H':=zM H
 clear H
 go_wp2
 go_region_with (fail)
 all_goals(go_wp2)
 all_goals(go_roundg k1;(case measure=>have:=m.out;omega);(case rel=>exact⟨_,_,_,rfl,rfl,H',⟨by have:=m.out;omega⟩,⟨fun B hB=>(((HB.out B hB).setCell (p:=⟨g,i.toNat,none⟩) hB _).setCell (p:=⟨g,j.toNat,none⟩) hB _).trans ⟨rfl,rfl,rfl,Nat.le_refl _,fun _ _=>rfl⟩⟩,⟨impl_ReverseText.row_put (impl_ReverseText.row_put (w1:=wr.drew) HR.out i.toNat _ y z) j.toNat _ t u⟩,⟨by rw[List.length_set,List.length_set];exact hl⟩⟩)))
 ·rw[if_neg l]at H;cases H)
 ·rw[if_neg d]at H;cases H)
 ·(
 rw[if_neg a]at H
 obtain rfl:=zI H
 have c4b:decide (i<j)=false:=zF a
 go_wp2
 (try simp only[Exit.inBlock,Exit.then])
 refine bodyPost_end (results_none rfl _ _ _) rfl ?_
 first|exact⟨rfl,HR.out,HB.out⟩|exact⟨rfl,HR.out,hl,HB.out⟩)))
set_option maxHeartbeats 4000000 in
set_option maxRecDepth 100000 in
theorem impl_ReverseText.calls (k:Nat) (a0:ByteArray) (r:ByteArray) (w:World) (h:impl_ReverseText.f k a0=some r):
  Calls Tryd.prog 31 #[.string a0] w fun e w'=>e= .returned (.string r)∧Below w.heap.size w w':=by
 unfold impl_ReverseText.f at h
 by_cases d:a0.size≤9223372036854775807
 ·(
 rw[if_pos d]at h
 obtain⟨ys,H,h⟩:=Option.bind_eq_some_iff.mp h
 obtain rfl:=zI h
 clear h
 have RN:=zM (impl_ReverseText.row_new w a0)
 have BN:=zM (conv_below 5 w a0)
 have HL:Aside0 ((bytesOf a0).length=a0.size):=⟨bytes_len a0⟩
 have l:impl_ReverseText.rv k (bytesOf a0) 0 (wrap64 (((bytesOf a0).length:Int)- 1))=some ys:=by rw[HL.out];exact H
 have H':=zM l
 clear H l
 go_enter Tryd.func31,Tryd.ntmps31
 go_wp2_with (first|((with_reducible refine gate_conv (src:=9) (dst:=51) rfl ?_);refine conv_at rfl rfl _ rfl _ rfl Tryd.underlying9 Tryd.underlying51 Tryd.underlying5 ?_;refine⟨_,rfl,?_⟩;generalize Lib.bytesWorld w 5 a0=w1 at RN BN ⊢;generalize grownCap w a0.size 0 5=cap;generalize (Lib.bytesCells w 5 a0).size=N at RN ⊢)|(go_at_call 77;have hrv:=impl_ReverseText.rev k w1 w.heap.size N (bytesOf a0) ys cap RN.out H'.out;rw[HL.out]at hrv;refine hrv.mono ?_;rintro e u ⟨rfl,a,t,m⟩;have o:=zM a;have q:=zM (BN.out.trans (m _ (Nat.le_refl _)));have hback:=impl_ReverseText.row_back (P:=Tryd.prog) (c:=cap) a Tryd.underlying51 Tryd.underlying5 Tryd.underlying9;rw[t]at hback;clear a m hrv RN BN;have RN:=o;have BN:=q;clear o q))
 go_ret
 exact⟨rfl,BN.out⟩)
 ·rw[if_neg d]at h;cases h
def strings_TrimRight.f (a0:ByteArray) (a1:ByteArray):Option (ByteArray):=if a1.toList=([32]:List UInt8)then(if a0.size≤9223372036854775807 then(some ⟨(Lib.trimRightB a0.data.toList 32).toArray⟩)else(none))else(none)
theorem strings_TrimRight.calls (a0:ByteArray) (a1:ByteArray) (r:ByteArray) (w:World) (h:strings_TrimRight.f a0 a1=some r):
  Calls Tryd.prog 78 #[.string a0,.string a1] w fun e w'=>e= .returned (.string r)∧Below w.heap.size w w':=by
 unfold strings_TrimRight.f at h
 split at h
 ·(
 rename_i h1
 obtain rfl:a1=⟨#[32]⟩:=by(
 rw[Go.ByteArray.toList_eq]at h1
 exact ByteArray.ext (Array.toList_inj.1 h1))
 split at h
 ·(
 rename_i h2
 obtain rfl:=zI h
 exact(Tryd.strings_TrimRight_one a0 32 (by decide) w h2).mono fun e w' ⟨he,hw⟩=>⟨he,hw▸Below.refl _ _⟩)
 ·cases h)
 ·cases h
def impl_TrimText.f (a0:ByteArray):Option (ByteArray):=(strings_TrimRight.f a0 (⟨#[32]⟩:ByteArray)).bind fun t160=>(some t160)
set_option maxHeartbeats 8000000 in
set_option maxRecDepth 100000 in
theorem impl_TrimText.calls (a0:ByteArray) (r:ByteArray) (w:World) (h:impl_TrimText.f a0=some r):
  Calls Tryd.prog 32 #[.string a0] w fun e w'=>e= .returned (.string r)∧Below w.heap.size w w':=by
 have HB:=zM (Below.refl w.heap.size w)
 have H:((strings_TrimRight.f a0 (⟨#[32]⟩:ByteArray)).bind fun a=>(some a))=some r:=h
 clear h
 obtain⟨a,d,H⟩:=sO H
 obtain rfl:=zI H
 go_enter Tryd.func32,Tryd.ntmps32
 go_wp2_with (first|((with_reducible refine gate_callee (f:=78) rfl ?_);refine sC (some 4) Tryd.func78 #[.string a0,.string (⟨#[32]⟩:ByteArray)] (strings_TrimRight.calls a0 (⟨#[32]⟩:ByteArray) a _ d.out) ?_;rintro e l ⟨rfl,hb⟩;refine⟨_,rfl,?_⟩;replace HB:=sB HB hb;(try clear hb)))
 go_ret
 exact⟨sq,sb⟩
def impl_within.f (a0:Int) (a1:Int) (a2:Int):Option (Bool):=if a0≥a1 then(some (decide (a0≤a2)))else(some false)
set_option maxHeartbeats 8000000 in
set_option maxRecDepth 100000 in
theorem impl_within.calls (a0:Int) (a1:Int) (a2:Int) (r:Bool) (w:World) (h:impl_within.f a0 a1 a2=some r):
  Calls Tryd.prog 54 #[.int .i64 a0,.int .i64 a1,.int .i64 a2] w fun e w'=>e= .returned (.bool r)∧Drawn0 w w':=by
 have H:(if a0≥a1 then(some (decide (a0≤a2)))else(some false))=some r:=h
 clear h
 by_cases a:a0≥a1
 ·(
 rw[if_pos a]at H
 have c4b0:decide (a1≤a0)=true:=zT a
 clear a
 obtain rfl:=zI H
 go_enter Tryd.func54,Tryd.ntmps54
 go_wp2
 go_ret
 exact⟨by first|rfl|(simp;done)|(simp[*];done),by repeat(first|exact Drawn0.refl _|apply Drawn0.step)⟩)
 rw[if_neg a]at H
 have c4b0:decide (a1≤a0)=false:=zF a
 clear a
 obtain rfl:=zI H
 go_enter Tryd.func54,Tryd.ntmps54
 go_wp2
 go_ret
 exact⟨by first|rfl|(simp;done)|(simp[*];done),by repeat(first|exact Drawn0.refl _|apply Drawn0.step)⟩
end Go.Proofs.YtjmojijopammjaaDoor.PFnTextOps
