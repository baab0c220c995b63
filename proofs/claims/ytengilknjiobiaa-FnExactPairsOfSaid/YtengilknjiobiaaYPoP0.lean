/- The printed functions' types. -/
import Derived.Test.YtengilknjiobiaaProg
import Derived.Below
import Derived.Deep.Draws
import Derived.Deep.AppendLies
import Derived.Maps.AppendAt
import Derived.OwnWalk
import Derived.Laws.BytesArg
import Derived.Laws.MakeOwn
import Derived.Laws.OwnMore
import Derived.Deep.OwnRows
import Derived.Tactics
import Derived.Lib.ConvBytes
import Derived.Laws.Slices
import Derived.WalkKit
import Derived.KernelRfl
import Derived.RowKit3
import Derived.Deep.LoopGhost
import Derived.Deep.QuietTactic
import Derived.BigQuiet
import Derived.WideLaws
import Derived.Deep.DeepCutAuto
import Derived.Deep.CutBlock
import Derived.Deep.RegionHeld3
import Derived.Laws.Rows
import Derived.Lib.AppendStr
import Derived.ArgAppend
import Derived.Laws.IdiomCopy
import Derived.OrdersHeld
import Derived.Laws.BitsLemmas
import Derived.RowKit
import Derived.Lib.Strings
import Derived.Lib.Slices
import Derived.Lib.Walk
import Derived.Lib.Bytealg
import Derived.Test.YtengilknjiobiaaYPoW3
namespace Go.Proofs.Ytengilknjiobiaa.PFnExactPairsOf
open Go.RowKit Go.Proofs.YtengilknjiobiaaG Go.Proofs.YtengilknjiobiaaW.PrintWords Go.Proofs.YtengilknjiobiaaW.PrintLast Go.Proofs.YtengilknjiobiaaW.PrintMore
attribute [local go_sem] max2_int min2_int max_two min_two max_three min_three max_four min_four
set_option linter.unusedVariables false
set_option linter.unusedSimpArgs false
def errW : Option Int → Value
  |none=> .nilIface
  |some c=> .iface 0 (.int .i64 c)
theorem errW_none:errW none= .nilIface:=rfl
theorem errW_some (c:Int):errW (some c)= .iface 0 (.int .i64 c):=rfl
theorem info29:(Try.prog.info? 29).map (fun i=>(i.zero,i.size,i.bytes))=some (some (.agg #[(.int .i64 0),(.int .i64 0),(.string ⟨#[]⟩),(.int .i64 0)]),4,40):=by kernel_rfl
theorem info56:(Try.prog.info? 56).map (fun i=>(i.zero,i.size,i.bytes))=some (some (.agg #[(.int .i64 0),(.int .i64 0),(.string ⟨#[]⟩),(.int .i64 0),(.slice none 0 0),(.slice none 0 0),(.int .i64 0),(.int .i64 0),(.string ⟨#[]⟩),(.int .i64 0)]),10,128):=by kernel_rfl
structure S26 where
  f0:Int
  f1:Int
  f2:ByteArray
  f3:Int
def z26:S26:=⟨(0:Int),(0:Int),(⟨#[]⟩:ByteArray),(0:Int)⟩
def k26:Kd S26:=Kd.iso (Kd.pair (Kd.int .i64) (Kd.pair (Kd.int .i64) (Kd.pair Kd.string (Kd.int .i64)))) (fun x:S26=>(x.f0,x.f1,x.f2,x.f3))
theorem k26_open {w:World} {x:S26} {cs:List Value} (h:k26.K w x cs):cs=[.int .i64 x.f0,.int .i64 x.f1,.string x.f2,.int .i64 x.f3]:=by
  obtain⟨_,_,rfl,rfl,⟨_,_,rfl,rfl,⟨_,_,rfl,rfl,rfl⟩⟩⟩:=h
  exact rfl
def rd_T26 (xs:List S26) (i:Int):S26:=xs.getD i.toNat z26
theorem at_T26 {w:World} {A:Option Addr} {n:Nat} {xs:List S26} (h:Kd.C k26 w A n xs) (i:Int) (h0:0≤i) (h1:i<n):∃ad,A=some ad∧w.cell? (ad.add (i.toNat*4))=some (.int .i64 (rd_T26 xs i).f0)∧w.cell? ⟨(ad.add (i.toNat*4)).block,(ad.add (i.toNat*4)).off+1,none⟩=some (.int .i64 (rd_T26 xs i).f1)∧w.cell? ⟨(ad.add (i.toNat*4)).block,(ad.add (i.toNat*4)).off+2,none⟩=some (.string (rd_T26 xs i).f2)∧w.cell? ⟨(ad.add (i.toNat*4)).block,(ad.add (i.toNat*4)).off+3,none⟩=some (.int .i64 (rd_T26 xs i).f3):=by
  obtain⟨ad,c,e,_,hK,hc0⟩:=Kd.C_get h z26 i h0 h1
  have hc:∀j u,c[j]?=some u→w.cell? (ad.add (i.toNat*4+j))=some u:=hc0
  obtain rfl:=k26_open hK
  exact⟨ad,e,hc 0 _ rfl,by rw[←add_field _ _ 1 (by omega)];exact hc 1 _ rfl,by rw[←add_field _ _ 2 (by omega)];exact hc 2 _ rfl,by rw[←add_field _ _ 3 (by omega)];exact hc 3 _ rfl⟩
def rd_L3 (xs:List (List S26)) (i:Int):(List S26):=xs.getD i.toNat ([]:List S26)
structure S51 where
  f0:Int
  f1:Int
  f2:ByteArray
  f3:Int
  f4:(List S26)
  f5:(List S26)
  f6:S26
def z51:S51:=⟨(0:Int),(0:Int),(⟨#[]⟩:ByteArray),(0:Int),([]:List S26),([]:List S26),z26⟩
def k51:Kd S51:=Kd.iso (Kd.pair (Kd.int .i64) (Kd.pair (Kd.int .i64) (Kd.pair Kd.string (Kd.pair (Kd.int .i64) (Kd.pair (Kd.slice 26 k26) (Kd.pair (Kd.slice 26 k26) k26)))))) (fun x:S51=>(x.f0,x.f1,x.f2,x.f3,x.f4,x.f5,x.f6))
theorem k51_open {w:World} {x:S51} {cs:List Value} (h:k51.K w x cs):∃A4 c4 A5 c5,cs=[.int .i64 x.f0,.int .i64 x.f1,.string x.f2,.int .i64 x.f3,.slice A4 x.f4.length c4,.slice A5 x.f5.length c5,.int .i64 x.f6.f0,.int .i64 x.f6.f1,.string x.f6.f2,.int .i64 x.f6.f3]∧x.f4.length≤c4∧k26.C w A4 x.f4.length x.f4∧x.f5.length≤c5∧k26.C w A5 x.f5.length x.f5:=by
  obtain⟨_,_,rfl,rfl,⟨_,_,rfl,rfl,⟨_,_,rfl,rfl,⟨_,_,rfl,rfl,⟨_,_,rfl,⟨A4,c4,rfl,l4,g4⟩,⟨_,_,rfl,⟨A5,c5,rfl,l5,g5⟩,s6⟩⟩⟩⟩⟩⟩:=h
  obtain rfl:=k26_open s6
  exact⟨A4,c4,A5,c5,rfl,l4,g4,l5,g5⟩
def rd_T51 (xs:List S51) (i:Int):S51:=xs.getD i.toNat z51
theorem at_T51 {w:World} {A:Option Addr} {n:Nat} {xs:List S51} (h:Kd.C k51 w A n xs) (i:Int) (h0:0≤i) (h1:i<n):∃ad A4 c4 A5 c5,A=some ad∧w.cell? (ad.add (i.toNat*10))=some (.int .i64 (rd_T51 xs i).f0)∧w.cell? ⟨(ad.add (i.toNat*10)).block,(ad.add (i.toNat*10)).off+1,none⟩=some (.int .i64 (rd_T51 xs i).f1)∧w.cell? ⟨(ad.add (i.toNat*10)).block,(ad.add (i.toNat*10)).off+2,none⟩=some (.string (rd_T51 xs i).f2)∧w.cell? ⟨(ad.add (i.toNat*10)).block,(ad.add (i.toNat*10)).off+3,none⟩=some (.int .i64 (rd_T51 xs i).f3)∧w.cell? ⟨(ad.add (i.toNat*10)).block,(ad.add (i.toNat*10)).off+4,none⟩=some (.slice A4 (rd_T51 xs i).f4.length c4)∧w.cell? ⟨(ad.add (i.toNat*10)).block,(ad.add (i.toNat*10)).off+5,none⟩=some (.slice A5 (rd_T51 xs i).f5.length c5)∧w.cell? ⟨(ad.add (i.toNat*10)).block,(ad.add (i.toNat*10)).off+6,none⟩=some (.int .i64 (rd_T51 xs i).f6.f0)∧w.cell? ⟨(ad.add (i.toNat*10)).block,(ad.add (i.toNat*10)).off+7,none⟩=some (.int .i64 (rd_T51 xs i).f6.f1)∧w.cell? ⟨(ad.add (i.toNat*10)).block,(ad.add (i.toNat*10)).off+8,none⟩=some (.string (rd_T51 xs i).f6.f2)∧w.cell? ⟨(ad.add (i.toNat*10)).block,(ad.add (i.toNat*10)).off+9,none⟩=some (.int .i64 (rd_T51 xs i).f6.f3)∧(rd_T51 xs i).f4.length≤c4∧k26.C w A4 (rd_T51 xs i).f4.length (rd_T51 xs i).f4∧(rd_T51 xs i).f5.length≤c5∧k26.C w A5 (rd_T51 xs i).f5.length (rd_T51 xs i).f5:=by
  obtain⟨ad,c,e,_,hK,hc0⟩:=Kd.C_get h z51 i h0 h1
  have hc:∀j u,c[j]?=some u→w.cell? (ad.add (i.toNat*10+j))=some u:=hc0
  obtain⟨A4,c4,A5,c5,rfl,l4,g4,l5,g5⟩:=k51_open hK
  exact⟨ad,A4,c4,A5,c5,e,hc 0 _ rfl,by rw[←add_field _ _ 1 (by omega)];exact hc 1 _ rfl,by rw[←add_field _ _ 2 (by omega)];exact hc 2 _ rfl,by rw[←add_field _ _ 3 (by omega)];exact hc 3 _ rfl,by rw[←add_field _ _ 4 (by omega)];exact hc 4 _ rfl,by rw[←add_field _ _ 5 (by omega)];exact hc 5 _ rfl,by rw[←add_field _ _ 6 (by omega)];exact hc 6 _ rfl,by rw[←add_field _ _ 7 (by omega)];exact hc 7 _ rfl,by rw[←add_field _ _ 8 (by omega)];exact hc 8 _ rfl,by rw[←add_field _ _ 9 (by omega)];exact hc 9 _ rfl,l4,g4,l5,g5⟩
structure S29 where
  f0:Int
  f1:Int
  f2:ByteArray
  f3:Int
def z29:S29:=⟨(0:Int),(0:Int),(⟨#[]⟩:ByteArray),(0:Int)⟩
def k29:Kd S29:=Kd.iso (Kd.pair (Kd.int .i64) (Kd.pair (Kd.int .i64) (Kd.pair Kd.string (Kd.int .i64)))) (fun x:S29=>(x.f0,x.f1,x.f2,x.f3))
theorem k29_heap:Kd.Heap k29:=Kd.heap_iso _ (Kd.heap_pair (Kd.heap_int .i64) (Kd.heap_pair (Kd.heap_int .i64) (Kd.heap_pair Kd.heap_string (Kd.heap_int .i64))))
theorem k29_open {w:World} {x:S29} {cs:List Value} (h:k29.K w x cs):cs=[.int .i64 x.f0,.int .i64 x.f1,.string x.f2,.int .i64 x.f3]:=by
  obtain⟨_,_,rfl,rfl,⟨_,_,rfl,rfl,⟨_,_,rfl,rfl,rfl⟩⟩⟩:=h
  exact rfl
theorem k29_openM {w:World} {base:Nat} {ok:Nat→Prop} {x:S29} {cs:List Value} (h:k29.M w base ok x cs):cs=[.int .i64 x.f0,.int .i64 x.f1,.string x.f2,.int .i64 x.f3]:=by
  obtain⟨_,_,rfl,rfl,⟨_,_,rfl,rfl,⟨_,_,rfl,rfl,rfl⟩⟩⟩:=h
  exact rfl
theorem k29_mkM (w:World) (base:Nat) (ok:Nat→Prop) (x:S29):k29.M w base ok x [.int .i64 x.f0,.int .i64 x.f1,.string x.f2,.int .i64 x.f3]:=⟨[.int .i64 x.f0],[.int .i64 x.f1,.string x.f2,.int .i64 x.f3],rfl,rfl,⟨[.int .i64 x.f1],[.string x.f2,.int .i64 x.f3],rfl,rfl,⟨[.string x.f2],[.int .i64 x.f3],rfl,rfl,rfl⟩⟩⟩
def rd_T29 (xs:List S29) (i:Int):S29:=xs.getD i.toNat z29
theorem at_T29 {w:World} {A:Option Addr} {n:Nat} {xs:List S29} (h:Kd.C k29 w A n xs) (i:Int) (h0:0≤i) (h1:i<n):∃ad,A=some ad∧w.cell? (ad.add (i.toNat*4))=some (.int .i64 (rd_T29 xs i).f0)∧w.cell? ⟨(ad.add (i.toNat*4)).block,(ad.add (i.toNat*4)).off+1,none⟩=some (.int .i64 (rd_T29 xs i).f1)∧w.cell? ⟨(ad.add (i.toNat*4)).block,(ad.add (i.toNat*4)).off+2,none⟩=some (.string (rd_T29 xs i).f2)∧w.cell? ⟨(ad.add (i.toNat*4)).block,(ad.add (i.toNat*4)).off+3,none⟩=some (.int .i64 (rd_T29 xs i).f3):=by
  obtain⟨ad,c,e,_,hK,hc0⟩:=Kd.C_get h z29 i h0 h1
  have hc:∀j u,c[j]?=some u→w.cell? (ad.add (i.toNat*4+j))=some u:=hc0
  obtain rfl:=k29_open hK
  exact⟨ad,e,hc 0 _ rfl,by rw[←add_field _ _ 1 (by omega)];exact hc 1 _ rfl,by rw[←add_field _ _ 2 (by omega)];exact hc 2 _ rfl,by rw[←add_field _ _ 3 (by omega)];exact hc 3 _ rfl⟩
def rd_L6 (xs:List (List S29)) (i:Int):(List S29):=xs.getD i.toNat ([]:List S29)
theorem at_L6 {w:World} {A:Option Addr} {n:Nat} {xs:List (List S29)} (h:Kd.C (Kd.slice 29 k29) w A n xs) (i:Int) (h0:0≤i) (h1:i<n):∃ad A0 c0,A=some ad∧w.cell? (ad.add i.toNat)=some (.slice A0 (rd_L6 xs i).length c0)∧(rd_L6 xs i).length≤c0∧k29.C w A0 (rd_L6 xs i).length (rd_L6 xs i):=by
  obtain⟨ad,c,e,_,hK,hc0⟩:=Kd.C_get h ([]:List S29) i h0 h1
  have hc:∀j u,c[j]?=some u→w.cell? (ad.add (i.toNat*1+j))=some u:=hc0
  obtain⟨A0,c0,rfl,l0,g0⟩:=hK
  exact⟨ad,A0,c0,e,by have hq:=hc 0 _ rfl;rwa [Nat.mul_one,Nat.add_zero]at hq,l0,g0⟩
structure S56 where
  f0:Int
  f1:Int
  f2:ByteArray
  f3:Int
  f4:(List S29)
  f5:(List S29)
  f6:S29
def z56:S56:=⟨(0:Int),(0:Int),(⟨#[]⟩:ByteArray),(0:Int),([]:List S29),([]:List S29),z29⟩
def k56:Kd S56:=Kd.iso (Kd.pair (Kd.int .i64) (Kd.pair (Kd.int .i64) (Kd.pair Kd.string (Kd.pair (Kd.int .i64) (Kd.pair (Kd.slice 29 k29) (Kd.pair (Kd.slice 29 k29) k29)))))) (fun x:S56=>(x.f0,x.f1,x.f2,x.f3,x.f4,x.f5,x.f6))
theorem k56_open {w:World} {x:S56} {cs:List Value} (h:k56.K w x cs):∃A4 c4 A5 c5,cs=[.int .i64 x.f0,.int .i64 x.f1,.string x.f2,.int .i64 x.f3,.slice A4 x.f4.length c4,.slice A5 x.f5.length c5,.int .i64 x.f6.f0,.int .i64 x.f6.f1,.string x.f6.f2,.int .i64 x.f6.f3]∧x.f4.length≤c4∧k29.C w A4 x.f4.length x.f4∧x.f5.length≤c5∧k29.C w A5 x.f5.length x.f5:=by
  obtain⟨_,_,rfl,rfl,⟨_,_,rfl,rfl,⟨_,_,rfl,rfl,⟨_,_,rfl,rfl,⟨_,_,rfl,⟨A4,c4,rfl,l4,g4⟩,⟨_,_,rfl,⟨A5,c5,rfl,l5,g5⟩,s6⟩⟩⟩⟩⟩⟩:=h
  obtain rfl:=k29_open s6
  exact⟨A4,c4,A5,c5,rfl,l4,g4,l5,g5⟩
theorem k56_openM {w:World} {base:Nat} {ok:Nat→Prop} {x:S56} {cs:List Value} (h:k56.M w base ok x cs):∃v4 v5,cs=[.int .i64 x.f0,.int .i64 x.f1,.string x.f2,.int .i64 x.f3,v4,v5,.int .i64 x.f6.f0,.int .i64 x.f6.f1,.string x.f6.f2,.int .i64 x.f6.f3]∧k29.R 29 w base ok v4 x.f4∧k29.R 29 w base ok v5 x.f5:=by
  obtain⟨_,_,rfl,rfl,⟨_,_,rfl,rfl,⟨_,_,rfl,rfl,⟨_,_,rfl,rfl,⟨_,_,rfl,⟨v4,rfl,g4⟩,⟨_,_,rfl,⟨v5,rfl,g5⟩,s6⟩⟩⟩⟩⟩⟩:=h
  obtain rfl:=k29_openM s6
  exact⟨v4,v5,rfl,g4,g5⟩
theorem k56_mkM (w:World) (base:Nat) (ok:Nat→Prop) (x:S56) {v4:Value} (g4:k29.R 29 w base ok v4 x.f4) {v5:Value} (g5:k29.R 29 w base ok v5 x.f5):k56.M w base ok x [.int .i64 x.f0,.int .i64 x.f1,.string x.f2,.int .i64 x.f3,v4,v5,.int .i64 x.f6.f0,.int .i64 x.f6.f1,.string x.f6.f2,.int .i64 x.f6.f3]:=⟨[.int .i64 x.f0],[.int .i64 x.f1,.string x.f2,.int .i64 x.f3,v4,v5,.int .i64 x.f6.f0,.int .i64 x.f6.f1,.string x.f6.f2,.int .i64 x.f6.f3],rfl,rfl,⟨[.int .i64 x.f1],[.string x.f2,.int .i64 x.f3,v4,v5,.int .i64 x.f6.f0,.int .i64 x.f6.f1,.string x.f6.f2,.int .i64 x.f6.f3],rfl,rfl,⟨[.string x.f2],[.int .i64 x.f3,v4,v5,.int .i64 x.f6.f0,.int .i64 x.f6.f1,.string x.f6.f2,.int .i64 x.f6.f3],rfl,rfl,⟨[.int .i64 x.f3],[v4,v5,.int .i64 x.f6.f0,.int .i64 x.f6.f1,.string x.f6.f2,.int .i64 x.f6.f3],rfl,rfl,⟨[v4],[v5,.int .i64 x.f6.f0,.int .i64 x.f6.f1,.string x.f6.f2,.int .i64 x.f6.f3],rfl,⟨v4,rfl,g4⟩,⟨[v5],[.int .i64 x.f6.f0,.int .i64 x.f6.f1,.string x.f6.f2,.int .i64 x.f6.f3],rfl,⟨v5,rfl,g5⟩,(k29_mkM w base ok x.f6)⟩⟩⟩⟩⟩⟩
def rd_T56 (xs:List S56) (i:Int):S56:=xs.getD i.toNat z56
theorem at_T56 {w:World} {A:Option Addr} {n:Nat} {xs:List S56} (h:Kd.C k56 w A n xs) (i:Int) (h0:0≤i) (h1:i<n):∃ad A4 c4 A5 c5,A=some ad∧w.cell? (ad.add (i.toNat*10))=some (.int .i64 (rd_T56 xs i).f0)∧w.cell? ⟨(ad.add (i.toNat*10)).block,(ad.add (i.toNat*10)).off+1,none⟩=some (.int .i64 (rd_T56 xs i).f1)∧w.cell? ⟨(ad.add (i.toNat*10)).block,(ad.add (i.toNat*10)).off+2,none⟩=some (.string (rd_T56 xs i).f2)∧w.cell? ⟨(ad.add (i.toNat*10)).block,(ad.add (i.toNat*10)).off+3,none⟩=some (.int .i64 (rd_T56 xs i).f3)∧w.cell? ⟨(ad.add (i.toNat*10)).block,(ad.add (i.toNat*10)).off+4,none⟩=some (.slice A4 (rd_T56 xs i).f4.length c4)∧w.cell? ⟨(ad.add (i.toNat*10)).block,(ad.add (i.toNat*10)).off+5,none⟩=some (.slice A5 (rd_T56 xs i).f5.length c5)∧w.cell? ⟨(ad.add (i.toNat*10)).block,(ad.add (i.toNat*10)).off+6,none⟩=some (.int .i64 (rd_T56 xs i).f6.f0)∧w.cell? ⟨(ad.add (i.toNat*10)).block,(ad.add (i.toNat*10)).off+7,none⟩=some (.int .i64 (rd_T56 xs i).f6.f1)∧w.cell? ⟨(ad.add (i.toNat*10)).block,(ad.add (i.toNat*10)).off+8,none⟩=some (.string (rd_T56 xs i).f6.f2)∧w.cell? ⟨(ad.add (i.toNat*10)).block,(ad.add (i.toNat*10)).off+9,none⟩=some (.int .i64 (rd_T56 xs i).f6.f3)∧(rd_T56 xs i).f4.length≤c4∧k29.C w A4 (rd_T56 xs i).f4.length (rd_T56 xs i).f4∧(rd_T56 xs i).f5.length≤c5∧k29.C w A5 (rd_T56 xs i).f5.length (rd_T56 xs i).f5:=by
  obtain⟨ad,c,e,_,hK,hc0⟩:=Kd.C_get h z56 i h0 h1
  have hc:∀j u,c[j]?=some u→w.cell? (ad.add (i.toNat*10+j))=some u:=hc0
  obtain⟨A4,c4,A5,c5,rfl,l4,g4,l5,g5⟩:=k56_open hK
  exact⟨ad,A4,c4,A5,c5,e,hc 0 _ rfl,by rw[←add_field _ _ 1 (by omega)];exact hc 1 _ rfl,by rw[←add_field _ _ 2 (by omega)];exact hc 2 _ rfl,by rw[←add_field _ _ 3 (by omega)];exact hc 3 _ rfl,by rw[←add_field _ _ 4 (by omega)];exact hc 4 _ rfl,by rw[←add_field _ _ 5 (by omega)];exact hc 5 _ rfl,by rw[←add_field _ _ 6 (by omega)];exact hc 6 _ rfl,by rw[←add_field _ _ 7 (by omega)];exact hc 7 _ rfl,by rw[←add_field _ _ 8 (by omega)];exact hc 8 _ rfl,by rw[←add_field _ _ 9 (by omega)];exact hc 9 _ rfl,l4,g4,l5,g5⟩
def rd_L8 (xs:List (List S56)) (i:Int):(List S56):=xs.getD i.toNat ([]:List S56)
structure S34 where
  f0:Int
  f1:(List S56)
def z34:S34:=⟨(0:Int),([]:List S56)⟩
def k34:Kd S34:=Kd.iso (Kd.pair (Kd.int .i64) (Kd.slice 56 k56)) (fun x:S34=>(x.f0,x.f1))
theorem k34_open {w:World} {x:S34} {cs:List Value} (h:k34.K w x cs):∃A1 c1,cs=[.int .i64 x.f0,.slice A1 x.f1.length c1]∧x.f1.length≤c1∧k56.C w A1 x.f1.length x.f1:=by
  obtain⟨_,_,rfl,rfl,⟨A1,c1,rfl,l1,g1⟩⟩:=h
  exact⟨A1,c1,rfl,l1,g1⟩
theorem k34_mk (w:World) (x:S34) {A1:Option Addr} {c1:Nat} (l1:x.f1.length≤c1) (g1:k56.C w A1 x.f1.length x.f1):k34.K w x [.int .i64 x.f0,.slice A1 x.f1.length c1]:=⟨[.int .i64 x.f0],[.slice A1 x.f1.length c1],rfl,rfl,⟨A1,c1,rfl,l1,g1⟩⟩
def rd_T34 (xs:List S34) (i:Int):S34:=xs.getD i.toNat z34
theorem at_T34 {w:World} {A:Option Addr} {n:Nat} {xs:List S34} (h:Kd.C k34 w A n xs) (i:Int) (h0:0≤i) (h1:i<n):∃ad A1 c1,A=some ad∧w.cell? (ad.add (i.toNat*2))=some (.int .i64 (rd_T34 xs i).f0)∧w.cell? ⟨(ad.add (i.toNat*2)).block,(ad.add (i.toNat*2)).off+1,none⟩=some (.slice A1 (rd_T34 xs i).f1.length c1)∧(rd_T34 xs i).f1.length≤c1∧k56.C w A1 (rd_T34 xs i).f1.length (rd_T34 xs i).f1:=by
  obtain⟨ad,c,e,_,hK,hc0⟩:=Kd.C_get h z34 i h0 h1
  have hc:∀j u,c[j]?=some u→w.cell? (ad.add (i.toNat*2+j))=some u:=hc0
  obtain⟨A1,c1,rfl,l1,g1⟩:=k34_open hK
  exact⟨ad,A1,c1,e,hc 0 _ rfl,by rw[←add_field _ _ 1 (by omega)];exact hc 1 _ rfl,l1,g1⟩
def rd_L11 (xs:List (List S51)) (i:Int):(List S51):=xs.getD i.toNat ([]:List S51)
structure S24 where
  f0:Int
  f1:(List S51)
def z24:S24:=⟨(0:Int),([]:List S51)⟩
def k24:Kd S24:=Kd.iso (Kd.pair (Kd.int .i64) (Kd.slice 51 k51)) (fun x:S24=>(x.f0,x.f1))
theorem k24_open {w:World} {x:S24} {cs:List Value} (h:k24.K w x cs):∃A1 c1,cs=[.int .i64 x.f0,.slice A1 x.f1.length c1]∧x.f1.length≤c1∧k51.C w A1 x.f1.length x.f1:=by
  obtain⟨_,_,rfl,rfl,⟨A1,c1,rfl,l1,g1⟩⟩:=h
  exact⟨A1,c1,rfl,l1,g1⟩
def rd_T24 (xs:List S24) (i:Int):S24:=xs.getD i.toNat z24
end Go.Proofs.Ytengilknjiobiaa.PFnExactPairsOf
