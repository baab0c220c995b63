/- The printed functions' types. -/
import Derived.Test.YtdihlgkcpooadaaProg
import Derived.Below
import Derived.Deep.Draws
import Derived.Deep.AppendLies
import Derived.Maps.AppendAt
import Derived.OwnWalk
import Derived.Laws.BytesArg
import Derived.Laws.MakeOwn
import Derived.Laws.OwnMore
import Derived.Deep.OwnRows
import Derived.Tactics
import Derived.Lib.ConvBytes
import Derived.Laws.Slices
import Derived.WalkKit
import Derived.KernelRfl
import Derived.RowKit3
import Derived.Deep.LoopGhost
import Derived.Deep.QuietTactic
import Derived.BigQuiet
import Derived.WideLaws
import Derived.Deep.DeepCutAuto
import Derived.Deep.CutBlock
import Derived.Deep.RegionHeld3
import Derived.Laws.Rows
import Derived.Lib.AppendStr
import Derived.ArgAppend
import Derived.Laws.IdiomCopy
import Derived.OrdersHeld
import Derived.Laws.BitsLemmas
import Derived.RowKit
import Derived.Lib.Strings
import Derived.Lib.Slices
import Derived.Lib.Walk
import Derived.Lib.Bytealg
import Derived.Test.YtdihlgkcpooadaaYIpW3
namespace Go.Proofs.Ytdihlgkcpooadaa.PFnExactIsPure
open Go.RowKit Go.Proofs.YtdihlgkcpooadaaG Go.Proofs.YtdihlgkcpooadaaW.PrintWords Go.Proofs.YtdihlgkcpooadaaW.PrintLast Go.Proofs.YtdihlgkcpooadaaW.PrintMore
attribute [local go_sem] max2_int min2_int max_two min_two max_three min_three max_four min_four
set_option linter.unusedVariables false
set_option linter.unusedSimpArgs false
def errW : Option Int → Value
  |none=> .nilIface
  |some c=> .iface 0 (.int .i64 c)
theorem info4:(Try.prog.info? 4).map (fun i=>(i.zero,i.size,i.bytes))=some (some (.bool false),1,1):=by kernel_rfl
theorem info9:(Try.prog.info? 9).map (fun i=>(i.zero,i.size,i.bytes))=some (some (.string ⟨#[]⟩),1,16):=by kernel_rfl
theorem info36:(Try.prog.info? 36).map (fun i=>(i.zero,i.size,i.bytes))=some (some (.agg #[(.int .i64 0),(.int .i64 0),(.string ⟨#[]⟩),(.slice none 0 0)]),4,56):=by kernel_rfl
theorem info52:(Try.prog.info? 52).map (fun i=>(i.zero,i.size,i.bytes))=some (some (.agg #[(.string ⟨#[]⟩),(.int .i64 0),(.int .i64 0),(.string ⟨#[]⟩),(.slice none 0 0)]),5,72):=by kernel_rfl
structure S31 where
  f0:Int
  f1:Int
  f2:ByteArray
  f3:(List S31)
def z31:S31:=⟨(0:Int),(0:Int),(⟨#[]⟩:ByteArray),([]:List S31)⟩
def F31 (d:Kd S31):Kd S31:=Kd.iso (Kd.pair (Kd.int .i64) (Kd.pair (Kd.int .i64) (Kd.pair Kd.string (Kd.slice 31 d)))) (fun x:S31=>(x.f0,x.f1,x.f2,x.f3))
theorem mono31:Kd.Mono F31:=Kd.mono_iso _ (Kd.mono_pair (Kd.mono_const _) (Kd.mono_pair (Kd.mono_const _) (Kd.mono_pair (Kd.mono_const _) (Kd.mono_slice 31 Kd.mono_id))))
theorem sub31:Kd.Sub F31 [31]:=Kd.sub_iso _ (Kd.sub_pair (Kd.sub_const _ (by decide)) (Kd.sub_pair (Kd.sub_const _ (by decide)) (Kd.sub_pair (Kd.sub_const _ (by decide)) (Kd.sub_slice 31 (by decide) Kd.sub_id))))
theorem sz31:∀n,(Kd.upto F31 4 [31] n).sz=4:=Kd.upto_sz (fun _=>rfl)
def k31:Kd S31:=Kd.fix F31 4 [31] sz31 (Kd.upto_E sub31)
theorem k31_open {w:World} {x:S31} {cs:List Value} (h:k31.K w x cs):∃A3 c3,cs=[.int .i64 x.f0,.int .i64 x.f1,.string x.f2,.slice A3 x.f3.length c3]∧x.f3.length≤c3∧k31.C w A3 x.f3.length x.f3:=by
  obtain⟨n,h⟩:=h
  cases n with
  |zero=>exact h.elim
  |succ n=>
    obtain⟨_,_,rfl,rfl,⟨_,_,rfl,rfl,⟨_,_,rfl,rfl,⟨A3,c3,rfl,l3,g3⟩⟩⟩⟩:=h
    exact⟨A3,c3,rfl,l3,Kd.fix_C g3⟩
def rd_T31 (xs:List S31) (i:Int):S31:=xs.getD i.toNat z31
theorem at_T31 {w:World} {A:Option Addr} {n:Nat} {xs:List S31} (h:Kd.C k31 w A n xs) (i:Int) (h0:0≤i) (h1:i<n):∃ad A3 c3,A=some ad∧w.cell? (ad.add (i.toNat*4))=some (.int .i64 (rd_T31 xs i).f0)∧w.cell? ⟨(ad.add (i.toNat*4)).block,(ad.add (i.toNat*4)).off+1,none⟩=some (.int .i64 (rd_T31 xs i).f1)∧w.cell? ⟨(ad.add (i.toNat*4)).block,(ad.add (i.toNat*4)).off+2,none⟩=some (.string (rd_T31 xs i).f2)∧w.cell? ⟨(ad.add (i.toNat*4)).block,(ad.add (i.toNat*4)).off+3,none⟩=some (.slice A3 (rd_T31 xs i).f3.length c3)∧(rd_T31 xs i).f3.length≤c3∧k31.C w A3 (rd_T31 xs i).f3.length (rd_T31 xs i).f3:=by
  obtain⟨ad,c,e,_,hK,hc0⟩:=Kd.C_get h z31 i h0 h1
  have hc:∀j u,c[j]?=some u→w.cell? (ad.add (i.toNat*4+j))=some u:=hc0
  obtain⟨A3,c3,rfl,l3,g3⟩:=k31_open hK
  exact⟨ad,A3,c3,e,hc 0 _ rfl,by rw[←add_field _ _ 1 (by omega)];exact hc 1 _ rfl,by rw[←add_field _ _ 2 (by omega)];exact hc 2 _ rfl,by rw[←add_field _ _ 3 (by omega)];exact hc 3 _ rfl,l3,g3⟩
structure S49 where
  f0:ByteArray
  f1:S31
def z49:S49:=⟨(⟨#[]⟩:ByteArray),z31⟩
def k49:Kd S49:=Kd.iso (Kd.pair Kd.string k31) (fun x:S49=>(x.f0,x.f1))
theorem k49_open {w:World} {x:S49} {cs:List Value} (h:k49.K w x cs):∃A4 c4,cs=[.string x.f0,.int .i64 x.f1.f0,.int .i64 x.f1.f1,.string x.f1.f2,.slice A4 x.f1.f3.length c4]∧x.f1.f3.length≤c4∧k31.C w A4 x.f1.f3.length x.f1.f3:=by
  obtain⟨_,_,rfl,rfl,s1⟩:=h
  obtain⟨A4,c4,rfl,l4,g4⟩:=k31_open s1
  exact⟨A4,c4,rfl,l4,g4⟩
def rd_T49 (xs:List S49) (i:Int):S49:=xs.getD i.toNat z49
theorem at_T49 {w:World} {A:Option Addr} {n:Nat} {xs:List S49} (h:Kd.C k49 w A n xs) (i:Int) (h0:0≤i) (h1:i<n):∃ad A4 c4,A=some ad∧w.cell? (ad.add (i.toNat*5))=some (.string (rd_T49 xs i).f0)∧w.cell? ⟨(ad.add (i.toNat*5)).block,(ad.add (i.toNat*5)).off+1,none⟩=some (.int .i64 (rd_T49 xs i).f1.f0)∧w.cell? ⟨(ad.add (i.toNat*5)).block,(ad.add (i.toNat*5)).off+2,none⟩=some (.int .i64 (rd_T49 xs i).f1.f1)∧w.cell? ⟨(ad.add (i.toNat*5)).block,(ad.add (i.toNat*5)).off+3,none⟩=some (.string (rd_T49 xs i).f1.f2)∧w.cell? ⟨(ad.add (i.toNat*5)).block,(ad.add (i.toNat*5)).off+4,none⟩=some (.slice A4 (rd_T49 xs i).f1.f3.length c4)∧(rd_T49 xs i).f1.f3.length≤c4∧k31.C w A4 (rd_T49 xs i).f1.f3.length (rd_T49 xs i).f1.f3:=by
  obtain⟨ad,c,e,_,hK,hc0⟩:=Kd.C_get h z49 i h0 h1
  have hc:∀j u,c[j]?=some u→w.cell? (ad.add (i.toNat*5+j))=some u:=hc0
  obtain⟨A4,c4,rfl,l4,g4⟩:=k49_open hK
  exact⟨ad,A4,c4,e,hc 0 _ rfl,by rw[←add_field _ _ 1 (by omega)];exact hc 1 _ rfl,by rw[←add_field _ _ 2 (by omega)];exact hc 2 _ rfl,by rw[←add_field _ _ 3 (by omega)];exact hc 3 _ rfl,by rw[←add_field _ _ 4 (by omega)];exact hc 4 _ rfl,l4,g4⟩
structure S36 where
  f0:Int
  f1:Int
  f2:ByteArray
  f3:(List S36)
def z36:S36:=⟨(0:Int),(0:Int),(⟨#[]⟩:ByteArray),([]:List S36)⟩
def F36 (d:Kd S36):Kd S36:=Kd.iso (Kd.pair (Kd.int .i64) (Kd.pair (Kd.int .i64) (Kd.pair Kd.string (Kd.slice 36 d)))) (fun x:S36=>(x.f0,x.f1,x.f2,x.f3))
theorem mono36:Kd.Mono F36:=Kd.mono_iso _ (Kd.mono_pair (Kd.mono_const _) (Kd.mono_pair (Kd.mono_const _) (Kd.mono_pair (Kd.mono_const _) (Kd.mono_slice 36 Kd.mono_id))))
theorem sub36:Kd.Sub F36 [36]:=Kd.sub_iso _ (Kd.sub_pair (Kd.sub_const _ (by decide)) (Kd.sub_pair (Kd.sub_const _ (by decide)) (Kd.sub_pair (Kd.sub_const _ (by decide)) (Kd.sub_slice 36 (by decide) Kd.sub_id))))
theorem sz36:∀n,(Kd.upto F36 4 [36] n).sz=4:=Kd.upto_sz (fun _=>rfl)
def k36:Kd S36:=Kd.fix F36 4 [36] sz36 (Kd.upto_E sub36)
theorem k36_heap:Kd.Heap k36:=Kd.heap_fix (fun _ h_=>Kd.heap_iso _ (Kd.heap_pair (Kd.heap_int .i64) (Kd.heap_pair (Kd.heap_int .i64) (Kd.heap_pair Kd.heap_string (Kd.heap_slice 36 h_)))))
theorem k36_open {w:World} {x:S36} {cs:List Value} (h:k36.K w x cs):∃A3 c3,cs=[.int .i64 x.f0,.int .i64 x.f1,.string x.f2,.slice A3 x.f3.length c3]∧x.f3.length≤c3∧k36.C w A3 x.f3.length x.f3:=by
  obtain⟨n,h⟩:=h
  cases n with
  |zero=>exact h.elim
  |succ n=>
    obtain⟨_,_,rfl,rfl,⟨_,_,rfl,rfl,⟨_,_,rfl,rfl,⟨A3,c3,rfl,l3,g3⟩⟩⟩⟩:=h
    exact⟨A3,c3,rfl,l3,Kd.fix_C g3⟩
theorem k36_openM {w:World} {base:Nat} {ok:Nat→Prop} {x:S36} {cs:List Value} (h:k36.M w base ok x cs):∃v3,cs=[.int .i64 x.f0,.int .i64 x.f1,.string x.f2,v3]∧k36.R 36 w base ok v3 x.f3:=by
  obtain⟨n,h⟩:=h
  cases n with
  |zero=>exact h.elim
  |succ n=>
    obtain⟨_,_,rfl,rfl,⟨_,_,rfl,rfl,⟨_,_,rfl,rfl,⟨v3,rfl,g3⟩⟩⟩⟩:=h
    exact⟨v3,rfl,Kd.fix_R g3⟩
theorem k36_mk (w:World) (x:S36) {A3:Option Addr} {c3:Nat} (l3:x.f3.length≤c3) (g3:k36.C w A3 x.f3.length x.f3):k36.K w x [.int .i64 x.f0,.int .i64 x.f1,.string x.f2,.slice A3 x.f3.length c3]:=by
  obtain⟨n3,q3⟩:=Kd.fix_C_back mono36 g3
  have r3:=Kd.upto_C_le mono36 sz36 (show n3≤n3 by omega) q3
  exact⟨n3+1,⟨[.int .i64 x.f0],[.int .i64 x.f1,.string x.f2,.slice A3 x.f3.length c3],rfl,rfl,⟨[.int .i64 x.f1],[.string x.f2,.slice A3 x.f3.length c3],rfl,rfl,⟨[.string x.f2],[.slice A3 x.f3.length c3],rfl,rfl,⟨A3,c3,rfl,l3,r3⟩⟩⟩⟩⟩
theorem k36_mkM (w:World) (base:Nat) (ok:Nat→Prop) (x:S36) {v3:Value} (g3:k36.R 36 w base ok v3 x.f3):k36.M w base ok x [.int .i64 x.f0,.int .i64 x.f1,.string x.f2,v3]:=by
  obtain⟨n3,q3⟩:=Kd.fix_R_back mono36 g3
  have r3:=Kd.upto_R_le mono36 sz36 (show n3≤n3 by omega) q3
  exact⟨n3+1,⟨[.int .i64 x.f0],[.int .i64 x.f1,.string x.f2,v3],rfl,rfl,⟨[.int .i64 x.f1],[.string x.f2,v3],rfl,rfl,⟨[.string x.f2],[v3],rfl,rfl,⟨v3,rfl,r3⟩⟩⟩⟩⟩
theorem k36_openF {W:World} {ok:Nat→Prop} {x:S36} {cs:List Value} (h:Kd.FK k36 W ok x cs):∃A3 c3,cs=[.int .i64 x.f0,.int .i64 x.f1,.string x.f2,.slice A3 x.f3.length c3]∧x.f3.length≤c3∧Kd.F k36 W ok A3 x.f3.length x.f3:=by
  obtain⟨A3,c3,rfl,l3,_⟩:=k36_open (Kd.FK_now h)
  exact⟨A3,c3,rfl,l3,(fun W' hW=>by obtain⟨A3_,c3_,he,l3_,g3_⟩:=k36_open (h W' hW);injection(Option.some.inj (show some (Value.slice A3 x.f3.length c3)=some (Value.slice A3_ x.f3.length c3_) from congrArg (fun l=>l[3]?) he))with ha_ _ _;rw[ha_];exact g3_)⟩
theorem k36_mkF (W:World) (ok:Nat→Prop) (x:S36) {A3:Option Addr} {c3:Nat} (l3:x.f3.length≤c3) (g3:Kd.F k36 W ok A3 x.f3.length x.f3):Kd.FK k36 W ok x [.int .i64 x.f0,.int .i64 x.f1,.string x.f2,.slice A3 x.f3.length c3]:=fun W2 hW=>k36_mk W2 x l3 (g3 W2 hW)
def rd_T36 (xs:List S36) (i:Int):S36:=xs.getD i.toNat z36
theorem at_T36 {w:World} {A:Option Addr} {n:Nat} {xs:List S36} (h:Kd.C k36 w A n xs) (i:Int) (h0:0≤i) (h1:i<n):∃ad A3 c3,A=some ad∧w.cell? (ad.add (i.toNat*4))=some (.int .i64 (rd_T36 xs i).f0)∧w.cell? ⟨(ad.add (i.toNat*4)).block,(ad.add (i.toNat*4)).off+1,none⟩=some (.int .i64 (rd_T36 xs i).f1)∧w.cell? ⟨(ad.add (i.toNat*4)).block,(ad.add (i.toNat*4)).off+2,none⟩=some (.string (rd_T36 xs i).f2)∧w.cell? ⟨(ad.add (i.toNat*4)).block,(ad.add (i.toNat*4)).off+3,none⟩=some (.slice A3 (rd_T36 xs i).f3.length c3)∧(rd_T36 xs i).f3.length≤c3∧k36.C w A3 (rd_T36 xs i).f3.length (rd_T36 xs i).f3:=by
  obtain⟨ad,c,e,_,hK,hc0⟩:=Kd.C_get h z36 i h0 h1
  have hc:∀j u,c[j]?=some u→w.cell? (ad.add (i.toNat*4+j))=some u:=hc0
  obtain⟨A3,c3,rfl,l3,g3⟩:=k36_open hK
  exact⟨ad,A3,c3,e,hc 0 _ rfl,by rw[←add_field _ _ 1 (by omega)];exact hc 1 _ rfl,by rw[←add_field _ _ 2 (by omega)];exact hc 2 _ rfl,by rw[←add_field _ _ 3 (by omega)];exact hc 3 _ rfl,l3,g3⟩
structure S52 where
  f0:ByteArray
  f1:S36
def z52:S52:=⟨(⟨#[]⟩:ByteArray),z36⟩
def k52:Kd S52:=Kd.iso (Kd.pair Kd.string k36) (fun x:S52=>(x.f0,x.f1))
theorem k52_heap:Kd.Heap k52:=Kd.heap_iso _ (Kd.heap_pair Kd.heap_string k36_heap)
theorem k52_open {w:World} {x:S52} {cs:List Value} (h:k52.K w x cs):∃A4 c4,cs=[.string x.f0,.int .i64 x.f1.f0,.int .i64 x.f1.f1,.string x.f1.f2,.slice A4 x.f1.f3.length c4]∧x.f1.f3.length≤c4∧k36.C w A4 x.f1.f3.length x.f1.f3:=by
  obtain⟨_,_,rfl,rfl,s1⟩:=h
  obtain⟨A4,c4,rfl,l4,g4⟩:=k36_open s1
  exact⟨A4,c4,rfl,l4,g4⟩
theorem k52_openM {w:World} {base:Nat} {ok:Nat→Prop} {x:S52} {cs:List Value} (h:k52.M w base ok x cs):∃v4,cs=[.string x.f0,.int .i64 x.f1.f0,.int .i64 x.f1.f1,.string x.f1.f2,v4]∧k36.R 36 w base ok v4 x.f1.f3:=by
  obtain⟨_,_,rfl,rfl,s1⟩:=h
  obtain⟨v4,rfl,g4⟩:=k36_openM s1
  exact⟨v4,rfl,g4⟩
theorem k52_mk (w:World) (x:S52) {A4:Option Addr} {c4:Nat} (l4:x.f1.f3.length≤c4) (g4:k36.C w A4 x.f1.f3.length x.f1.f3):k52.K w x [.string x.f0,.int .i64 x.f1.f0,.int .i64 x.f1.f1,.string x.f1.f2,.slice A4 x.f1.f3.length c4]:=⟨[.string x.f0],[.int .i64 x.f1.f0,.int .i64 x.f1.f1,.string x.f1.f2,.slice A4 x.f1.f3.length c4],rfl,rfl,(k36_mk w x.f1 l4 g4)⟩
theorem k52_mkM (w:World) (base:Nat) (ok:Nat→Prop) (x:S52) {v4:Value} (g4:k36.R 36 w base ok v4 x.f1.f3):k52.M w base ok x [.string x.f0,.int .i64 x.f1.f0,.int .i64 x.f1.f1,.string x.f1.f2,v4]:=⟨[.string x.f0],[.int .i64 x.f1.f0,.int .i64 x.f1.f1,.string x.f1.f2,v4],rfl,rfl,(k36_mkM w base ok x.f1 g4)⟩
theorem k52_openF {W:World} {ok:Nat→Prop} {x:S52} {cs:List Value} (h:Kd.FK k52 W ok x cs):∃A4 c4,cs=[.string x.f0,.int .i64 x.f1.f0,.int .i64 x.f1.f1,.string x.f1.f2,.slice A4 x.f1.f3.length c4]∧x.f1.f3.length≤c4∧Kd.F k36 W ok A4 x.f1.f3.length x.f1.f3:=by
  obtain⟨A4,c4,rfl,l4,_⟩:=k52_open (Kd.FK_now h)
  exact⟨A4,c4,rfl,l4,(fun W' hW=>by obtain⟨A4_,c4_,he,l4_,g4_⟩:=k52_open (h W' hW);injection(Option.some.inj (show some (Value.slice A4 x.f1.f3.length c4)=some (Value.slice A4_ x.f1.f3.length c4_) from congrArg (fun l=>l[4]?) he))with ha_ _ _;rw[ha_];exact g4_)⟩
theorem k52_mkF (W:World) (ok:Nat→Prop) (x:S52) {A4:Option Addr} {c4:Nat} (l4:x.f1.f3.length≤c4) (g4:Kd.F k36 W ok A4 x.f1.f3.length x.f1.f3):Kd.FK k52 W ok x [.string x.f0,.int .i64 x.f1.f0,.int .i64 x.f1.f1,.string x.f1.f2,.slice A4 x.f1.f3.length c4]:=fun W2 hW=>k52_mk W2 x l4 (g4 W2 hW)
def rd_T52 (xs:List S52) (i:Int):S52:=xs.getD i.toNat z52
theorem at_T52 {w:World} {A:Option Addr} {n:Nat} {xs:List S52} (h:Kd.C k52 w A n xs) (i:Int) (h0:0≤i) (h1:i<n):∃ad A4 c4,A=some ad∧w.cell? (ad.add (i.toNat*5))=some (.string (rd_T52 xs i).f0)∧w.cell? ⟨(ad.add (i.toNat*5)).block,(ad.add (i.toNat*5)).off+1,none⟩=some (.int .i64 (rd_T52 xs i).f1.f0)∧w.cell? ⟨(ad.add (i.toNat*5)).block,(ad.add (i.toNat*5)).off+2,none⟩=some (.int .i64 (rd_T52 xs i).f1.f1)∧w.cell? ⟨(ad.add (i.toNat*5)).block,(ad.add (i.toNat*5)).off+3,none⟩=some (.string (rd_T52 xs i).f1.f2)∧w.cell? ⟨(ad.add (i.toNat*5)).block,(ad.add (i.toNat*5)).off+4,none⟩=some (.slice A4 (rd_T52 xs i).f1.f3.length c4)∧(rd_T52 xs i).f1.f3.length≤c4∧k36.C w A4 (rd_T52 xs i).f1.f3.length (rd_T52 xs i).f1.f3:=by
  obtain⟨ad,c,e,_,hK,hc0⟩:=Kd.C_get h z52 i h0 h1
  have hc:∀j u,c[j]?=some u→w.cell? (ad.add (i.toNat*5+j))=some u:=hc0
  obtain⟨A4,c4,rfl,l4,g4⟩:=k52_open hK
  exact⟨ad,A4,c4,e,hc 0 _ rfl,by rw[←add_field _ _ 1 (by omega)];exact hc 1 _ rfl,by rw[←add_field _ _ 2 (by omega)];exact hc 2 _ rfl,by rw[←add_field _ _ 3 (by omega)];exact hc 3 _ rfl,by rw[←add_field _ _ 4 (by omega)];exact hc 4 _ rfl,l4,g4⟩
def rd_L8 (xs:List (List S49)) (i:Int):(List S49):=xs.getD i.toNat ([]:List S49)
end Go.Proofs.Ytdihlgkcpooadaa.PFnExactIsPure
