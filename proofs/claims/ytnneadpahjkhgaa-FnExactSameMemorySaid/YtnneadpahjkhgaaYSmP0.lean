/- The printed functions' types. -/
import Derived.Test.YtnneadpahjkhgaaProg
import Derived.Below
import Derived.Deep.Draws
import Derived.Deep.AppendLies
import Derived.Maps.AppendAt
import Derived.OwnWalk
import Derived.Laws.BytesArg
import Derived.Laws.MakeOwn
import Derived.Laws.OwnMore
import Derived.Deep.OwnRows
import Derived.Tactics
import Derived.Lib.ConvBytes
import Derived.Laws.Slices
import Derived.WalkKit
import Derived.KernelRfl
import Derived.RowKit3
import Derived.Deep.LoopGhost
import Derived.Deep.QuietTactic
import Derived.BigQuiet
import Derived.WideLaws
import Derived.Deep.DeepCutAuto
import Derived.Deep.CutBlock
import Derived.Deep.RegionHeld3
import Derived.Laws.Rows
import Derived.Lib.AppendStr
import Derived.ArgAppend
import Derived.Laws.IdiomCopy
import Derived.OrdersHeld
import Derived.Laws.BitsLemmas
import Derived.RowKit
import Derived.Lib.Strings
import Derived.Lib.Slices
import Derived.Lib.Walk
import Derived.Lib.Bytealg
import Derived.Test.YtnneadpahjkhgaaYSmW3
namespace Go.Proofs.Ytnneadpahjkhgaa.PFnExactSameMemory
open Go.RowKit Go.Proofs.YtnneadpahjkhgaaG Go.Proofs.YtnneadpahjkhgaaW.PrintWords Go.Proofs.YtnneadpahjkhgaaW.PrintLast Go.Proofs.YtnneadpahjkhgaaW.PrintMore
attribute [local go_sem] max2_int min2_int max_two min_two max_three min_three max_four min_four
set_option linter.unusedVariables false
set_option linter.unusedSimpArgs false
def errW : Option Int → Value
  |none=> .nilIface
  |some c=> .iface 0 (.int .i64 c)
theorem info9:(Try.prog.info? 9).map (fun i=>(i.zero,i.size,i.bytes))=some (some (.string ⟨#[]⟩),1,16):=by kernel_rfl
theorem info87:(Try.prog.info? 87).map (fun i=>(i.zero,i.size,i.bytes))=some (some (.agg #[(.string ⟨#[]⟩),(.slice none 0 0),(.int .i64 0),(.int .i64 0)]),4,56):=by kernel_rfl
theorem info107:(Try.prog.info? 107).map (fun i=>(i.zero,i.size,i.bytes))=some (some (.agg #[(.string ⟨#[]⟩),(.slice none 0 0),(.slice none 0 0),(.string ⟨#[]⟩)]),4,80):=by kernel_rfl
theorem info109:(Try.prog.info? 109).map (fun i=>(i.zero,i.size,i.bytes))=some (some (.agg #[(.string ⟨#[]⟩),(.slice none 0 0)]),2,40):=by kernel_rfl
theorem info114:(Try.prog.info? 114).map (fun i=>(i.zero,i.size,i.bytes))=some (some (.agg #[(.int .i64 0),(.int .i64 0),(.string ⟨#[]⟩),(.int .i64 0)]),4,40):=by kernel_rfl
theorem info116:(Try.prog.info? 116).map (fun i=>(i.zero,i.size,i.bytes))=some (some (.agg #[(.string ⟨#[]⟩),(.int .i64 0),(.int .i64 0),(.string ⟨#[]⟩),(.int .i64 0)]),5,56):=by kernel_rfl
theorem info154:(Try.prog.info? 154).map (fun i=>(i.zero,i.size,i.bytes))=some (some (.agg #[(.int .i64 0),(.int .i64 0),(.string ⟨#[]⟩),(.int .i64 0),(.slice none 0 0),(.slice none 0 0),(.int .i64 0),(.int .i64 0),(.string ⟨#[]⟩),(.int .i64 0)]),10,128):=by kernel_rfl
structure S132 where
  f0:Int
  f1:Int
  f2:ByteArray
  f3:Int
def z132:S132:=⟨(0:Int),(0:Int),(⟨#[]⟩:ByteArray),(0:Int)⟩
def k132:Kd S132:=Kd.iso (Kd.pair (Kd.int .i64) (Kd.pair (Kd.int .i64) (Kd.pair Kd.string (Kd.int .i64)))) (fun x:S132=>(x.f0,x.f1,x.f2,x.f3))
theorem k132_open {w:World} {x:S132} {cs:List Value} (h:k132.K w x cs):cs=[.int .i64 x.f0,.int .i64 x.f1,.string x.f2,.int .i64 x.f3]:=by
  obtain⟨_,_,rfl,rfl,⟨_,_,rfl,rfl,⟨_,_,rfl,rfl,rfl⟩⟩⟩:=h
  exact rfl
def rd_T132 (xs:List S132) (i:Int):S132:=xs.getD i.toNat z132
theorem at_T132 {w:World} {A:Option Addr} {n:Nat} {xs:List S132} (h:Kd.C k132 w A n xs) (i:Int) (h0:0≤i) (h1:i<n):∃ad,A=some ad∧w.cell? (ad.add (i.toNat*4))=some (.int .i64 (rd_T132 xs i).f0)∧w.cell? ⟨(ad.add (i.toNat*4)).block,(ad.add (i.toNat*4)).off+1,none⟩=some (.int .i64 (rd_T132 xs i).f1)∧w.cell? ⟨(ad.add (i.toNat*4)).block,(ad.add (i.toNat*4)).off+2,none⟩=some (.string (rd_T132 xs i).f2)∧w.cell? ⟨(ad.add (i.toNat*4)).block,(ad.add (i.toNat*4)).off+3,none⟩=some (.int .i64 (rd_T132 xs i).f3):=by
  obtain⟨ad,c,e,_,hK,hc0⟩:=Kd.C_get h z132 i h0 h1
  have hc:∀j u,c[j]?=some u→w.cell? (ad.add (i.toNat*4+j))=some u:=hc0
  obtain rfl:=k132_open hK
  exact⟨ad,e,hc 0 _ rfl,by rw[←add_field _ _ 1 (by omega)];exact hc 1 _ rfl,by rw[←add_field _ _ 2 (by omega)];exact hc 2 _ rfl,by rw[←add_field _ _ 3 (by omega)];exact hc 3 _ rfl⟩
def rd_L3 (xs:List (List S132)) (i:Int):(List S132):=xs.getD i.toNat ([]:List S132)
structure S166 where
  f0:Int
  f1:Int
  f2:ByteArray
  f3:Int
  f4:(List S132)
  f5:(List S132)
  f6:S132
def z166:S166:=⟨(0:Int),(0:Int),(⟨#[]⟩:ByteArray),(0:Int),([]:List S132),([]:List S132),z132⟩
def k166:Kd S166:=Kd.iso (Kd.pair (Kd.int .i64) (Kd.pair (Kd.int .i64) (Kd.pair Kd.string (Kd.pair (Kd.int .i64) (Kd.pair (Kd.slice 132 k132) (Kd.pair (Kd.slice 132 k132) k132)))))) (fun x:S166=>(x.f0,x.f1,x.f2,x.f3,x.f4,x.f5,x.f6))
theorem k166_open {w:World} {x:S166} {cs:List Value} (h:k166.K w x cs):∃A4 c4 A5 c5,cs=[.int .i64 x.f0,.int .i64 x.f1,.string x.f2,.int .i64 x.f3,.slice A4 x.f4.length c4,.slice A5 x.f5.length c5,.int .i64 x.f6.f0,.int .i64 x.f6.f1,.string x.f6.f2,.int .i64 x.f6.f3]∧x.f4.length≤c4∧k132.C w A4 x.f4.length x.f4∧x.f5.length≤c5∧k132.C w A5 x.f5.length x.f5:=by
  obtain⟨_,_,rfl,rfl,⟨_,_,rfl,rfl,⟨_,_,rfl,rfl,⟨_,_,rfl,rfl,⟨_,_,rfl,⟨A4,c4,rfl,l4,g4⟩,⟨_,_,rfl,⟨A5,c5,rfl,l5,g5⟩,s6⟩⟩⟩⟩⟩⟩:=h
  obtain rfl:=k132_open s6
  exact⟨A4,c4,A5,c5,rfl,l4,g4,l5,g5⟩
def rd_T166 (xs:List S166) (i:Int):S166:=xs.getD i.toNat z166
theorem at_T166 {w:World} {A:Option Addr} {n:Nat} {xs:List S166} (h:Kd.C k166 w A n xs) (i:Int) (h0:0≤i) (h1:i<n):∃ad A4 c4 A5 c5,A=some ad∧w.cell? (ad.add (i.toNat*10))=some (.int .i64 (rd_T166 xs i).f0)∧w.cell? ⟨(ad.add (i.toNat*10)).block,(ad.add (i.toNat*10)).off+1,none⟩=some (.int .i64 (rd_T166 xs i).f1)∧w.cell? ⟨(ad.add (i.toNat*10)).block,(ad.add (i.toNat*10)).off+2,none⟩=some (.string (rd_T166 xs i).f2)∧w.cell? ⟨(ad.add (i.toNat*10)).block,(ad.add (i.toNat*10)).off+3,none⟩=some (.int .i64 (rd_T166 xs i).f3)∧w.cell? ⟨(ad.add (i.toNat*10)).block,(ad.add (i.toNat*10)).off+4,none⟩=some (.slice A4 (rd_T166 xs i).f4.length c4)∧w.cell? ⟨(ad.add (i.toNat*10)).block,(ad.add (i.toNat*10)).off+5,none⟩=some (.slice A5 (rd_T166 xs i).f5.length c5)∧w.cell? ⟨(ad.add (i.toNat*10)).block,(ad.add (i.toNat*10)).off+6,none⟩=some (.int .i64 (rd_T166 xs i).f6.f0)∧w.cell? ⟨(ad.add (i.toNat*10)).block,(ad.add (i.toNat*10)).off+7,none⟩=some (.int .i64 (rd_T166 xs i).f6.f1)∧w.cell? ⟨(ad.add (i.toNat*10)).block,(ad.add (i.toNat*10)).off+8,none⟩=some (.string (rd_T166 xs i).f6.f2)∧w.cell? ⟨(ad.add (i.toNat*10)).block,(ad.add (i.toNat*10)).off+9,none⟩=some (.int .i64 (rd_T166 xs i).f6.f3)∧(rd_T166 xs i).f4.length≤c4∧k132.C w A4 (rd_T166 xs i).f4.length (rd_T166 xs i).f4∧(rd_T166 xs i).f5.length≤c5∧k132.C w A5 (rd_T166 xs i).f5.length (rd_T166 xs i).f5:=by
  obtain⟨ad,c,e,_,hK,hc0⟩:=Kd.C_get h z166 i h0 h1
  have hc:∀j u,c[j]?=some u→w.cell? (ad.add (i.toNat*10+j))=some u:=hc0
  obtain⟨A4,c4,A5,c5,rfl,l4,g4,l5,g5⟩:=k166_open hK
  exact⟨ad,A4,c4,A5,c5,e,hc 0 _ rfl,by rw[←add_field _ _ 1 (by omega)];exact hc 1 _ rfl,by rw[←add_field _ _ 2 (by omega)];exact hc 2 _ rfl,by rw[←add_field _ _ 3 (by omega)];exact hc 3 _ rfl,by rw[←add_field _ _ 4 (by omega)];exact hc 4 _ rfl,by rw[←add_field _ _ 5 (by omega)];exact hc 5 _ rfl,by rw[←add_field _ _ 6 (by omega)];exact hc 6 _ rfl,by rw[←add_field _ _ 7 (by omega)];exact hc 7 _ rfl,by rw[←add_field _ _ 8 (by omega)];exact hc 8 _ rfl,by rw[←add_field _ _ 9 (by omega)];exact hc 9 _ rfl,l4,g4,l5,g5⟩
structure S134 where
  f0:ByteArray
  f1:S132
def z134:S134:=⟨(⟨#[]⟩:ByteArray),z132⟩
def k134:Kd S134:=Kd.iso (Kd.pair Kd.string k132) (fun x:S134=>(x.f0,x.f1))
theorem k134_open {w:World} {x:S134} {cs:List Value} (h:k134.K w x cs):cs=[.string x.f0,.int .i64 x.f1.f0,.int .i64 x.f1.f1,.string x.f1.f2,.int .i64 x.f1.f3]:=by
  obtain⟨_,_,rfl,rfl,s1⟩:=h
  obtain rfl:=k132_open s1
  exact rfl
def rd_T134 (xs:List S134) (i:Int):S134:=xs.getD i.toNat z134
theorem at_T134 {w:World} {A:Option Addr} {n:Nat} {xs:List S134} (h:Kd.C k134 w A n xs) (i:Int) (h0:0≤i) (h1:i<n):∃ad,A=some ad∧w.cell? (ad.add (i.toNat*5))=some (.string (rd_T134 xs i).f0)∧w.cell? ⟨(ad.add (i.toNat*5)).block,(ad.add (i.toNat*5)).off+1,none⟩=some (.int .i64 (rd_T134 xs i).f1.f0)∧w.cell? ⟨(ad.add (i.toNat*5)).block,(ad.add (i.toNat*5)).off+2,none⟩=some (.int .i64 (rd_T134 xs i).f1.f1)∧w.cell? ⟨(ad.add (i.toNat*5)).block,(ad.add (i.toNat*5)).off+3,none⟩=some (.string (rd_T134 xs i).f1.f2)∧w.cell? ⟨(ad.add (i.toNat*5)).block,(ad.add (i.toNat*5)).off+4,none⟩=some (.int .i64 (rd_T134 xs i).f1.f3):=by
  obtain⟨ad,c,e,_,hK,hc0⟩:=Kd.C_get h z134 i h0 h1
  have hc:∀j u,c[j]?=some u→w.cell? (ad.add (i.toNat*5+j))=some u:=hc0
  obtain rfl:=k134_open hK
  exact⟨ad,e,hc 0 _ rfl,by rw[←add_field _ _ 1 (by omega)];exact hc 1 _ rfl,by rw[←add_field _ _ 2 (by omega)];exact hc 2 _ rfl,by rw[←add_field _ _ 3 (by omega)];exact hc 3 _ rfl,by rw[←add_field _ _ 4 (by omega)];exact hc 4 _ rfl⟩
def rd_L6 (xs:List (List ByteArray)) (i:Int):(List ByteArray):=xs.getD i.toNat ([]:List ByteArray)
structure S136 where
  f0:ByteArray
  f1:(List ByteArray)
  f2:(List ByteArray)
  f3:ByteArray
def z136:S136:=⟨(⟨#[]⟩:ByteArray),([]:List ByteArray),([]:List ByteArray),(⟨#[]⟩:ByteArray)⟩
def k136:Kd S136:=Kd.iso (Kd.pair Kd.string (Kd.pair (Kd.slice 9 Kd.string) (Kd.pair (Kd.slice 9 Kd.string) Kd.string))) (fun x:S136=>(x.f0,x.f1,x.f2,x.f3))
theorem k136_open {w:World} {x:S136} {cs:List Value} (h:k136.K w x cs):∃A1 c1 A2 c2,cs=[.string x.f0,.slice A1 x.f1.length c1,.slice A2 x.f2.length c2,.string x.f3]∧x.f1.length≤c1∧Kd.string.C w A1 x.f1.length x.f1∧x.f2.length≤c2∧Kd.string.C w A2 x.f2.length x.f2:=by
  obtain⟨_,_,rfl,rfl,⟨_,_,rfl,⟨A1,c1,rfl,l1,g1⟩,⟨_,_,rfl,⟨A2,c2,rfl,l2,g2⟩,rfl⟩⟩⟩:=h
  exact⟨A1,c1,A2,c2,rfl,l1,g1,l2,g2⟩
def rd_T136 (xs:List S136) (i:Int):S136:=xs.getD i.toNat z136
theorem at_T136 {w:World} {A:Option Addr} {n:Nat} {xs:List S136} (h:Kd.C k136 w A n xs) (i:Int) (h0:0≤i) (h1:i<n):∃ad A1 c1 A2 c2,A=some ad∧w.cell? (ad.add (i.toNat*4))=some (.string (rd_T136 xs i).f0)∧w.cell? ⟨(ad.add (i.toNat*4)).block,(ad.add (i.toNat*4)).off+1,none⟩=some (.slice A1 (rd_T136 xs i).f1.length c1)∧w.cell? ⟨(ad.add (i.toNat*4)).block,(ad.add (i.toNat*4)).off+2,none⟩=some (.slice A2 (rd_T136 xs i).f2.length c2)∧w.cell? ⟨(ad.add (i.toNat*4)).block,(ad.add (i.toNat*4)).off+3,none⟩=some (.string (rd_T136 xs i).f3)∧(rd_T136 xs i).f1.length≤c1∧Kd.string.C w A1 (rd_T136 xs i).f1.length (rd_T136 xs i).f1∧(rd_T136 xs i).f2.length≤c2∧Kd.string.C w A2 (rd_T136 xs i).f2.length (rd_T136 xs i).f2:=by
  obtain⟨ad,c,e,_,hK,hc0⟩:=Kd.C_get h z136 i h0 h1
  have hc:∀j u,c[j]?=some u→w.cell? (ad.add (i.toNat*4+j))=some u:=hc0
  obtain⟨A1,c1,A2,c2,rfl,l1,g1,l2,g2⟩:=k136_open hK
  exact⟨ad,A1,c1,A2,c2,e,hc 0 _ rfl,by rw[←add_field _ _ 1 (by omega)];exact hc 1 _ rfl,by rw[←add_field _ _ 2 (by omega)];exact hc 2 _ rfl,by rw[←add_field _ _ 3 (by omega)];exact hc 3 _ rfl,l1,g1,l2,g2⟩
structure S138 where
  f0:ByteArray
  f1:(List ByteArray)
def z138:S138:=⟨(⟨#[]⟩:ByteArray),([]:List ByteArray)⟩
def k138:Kd S138:=Kd.iso (Kd.pair Kd.string (Kd.slice 9 Kd.string)) (fun x:S138=>(x.f0,x.f1))
theorem k138_open {w:World} {x:S138} {cs:List Value} (h:k138.K w x cs):∃A1 c1,cs=[.string x.f0,.slice A1 x.f1.length c1]∧x.f1.length≤c1∧Kd.string.C w A1 x.f1.length x.f1:=by
  obtain⟨_,_,rfl,rfl,⟨A1,c1,rfl,l1,g1⟩⟩:=h
  exact⟨A1,c1,rfl,l1,g1⟩
def rd_T138 (xs:List S138) (i:Int):S138:=xs.getD i.toNat z138
theorem at_T138 {w:World} {A:Option Addr} {n:Nat} {xs:List S138} (h:Kd.C k138 w A n xs) (i:Int) (h0:0≤i) (h1:i<n):∃ad A1 c1,A=some ad∧w.cell? (ad.add (i.toNat*2))=some (.string (rd_T138 xs i).f0)∧w.cell? ⟨(ad.add (i.toNat*2)).block,(ad.add (i.toNat*2)).off+1,none⟩=some (.slice A1 (rd_T138 xs i).f1.length c1)∧(rd_T138 xs i).f1.length≤c1∧Kd.string.C w A1 (rd_T138 xs i).f1.length (rd_T138 xs i).f1:=by
  obtain⟨ad,c,e,_,hK,hc0⟩:=Kd.C_get h z138 i h0 h1
  have hc:∀j u,c[j]?=some u→w.cell? (ad.add (i.toNat*2+j))=some u:=hc0
  obtain⟨A1,c1,rfl,l1,g1⟩:=k138_open hK
  exact⟨ad,A1,c1,e,hc 0 _ rfl,by rw[←add_field _ _ 1 (by omega)];exact hc 1 _ rfl,l1,g1⟩
structure S127 where
  f0:ByteArray
  f1:(List ByteArray)
  f2:Int
  f3:Int
def z127:S127:=⟨(⟨#[]⟩:ByteArray),([]:List ByteArray),(0:Int),(0:Int)⟩
def k127:Kd S127:=Kd.iso (Kd.pair Kd.string (Kd.pair (Kd.slice 9 Kd.string) (Kd.pair (Kd.int .i64) (Kd.int .i64)))) (fun x:S127=>(x.f0,x.f1,x.f2,x.f3))
theorem k127_open {w:World} {x:S127} {cs:List Value} (h:k127.K w x cs):∃A1 c1,cs=[.string x.f0,.slice A1 x.f1.length c1,.int .i64 x.f2,.int .i64 x.f3]∧x.f1.length≤c1∧Kd.string.C w A1 x.f1.length x.f1:=by
  obtain⟨_,_,rfl,rfl,⟨_,_,rfl,⟨A1,c1,rfl,l1,g1⟩,⟨_,_,rfl,rfl,rfl⟩⟩⟩:=h
  exact⟨A1,c1,rfl,l1,g1⟩
def rd_T127 (xs:List S127) (i:Int):S127:=xs.getD i.toNat z127
theorem at_T127 {w:World} {A:Option Addr} {n:Nat} {xs:List S127} (h:Kd.C k127 w A n xs) (i:Int) (h0:0≤i) (h1:i<n):∃ad A1 c1,A=some ad∧w.cell? (ad.add (i.toNat*4))=some (.string (rd_T127 xs i).f0)∧w.cell? ⟨(ad.add (i.toNat*4)).block,(ad.add (i.toNat*4)).off+1,none⟩=some (.slice A1 (rd_T127 xs i).f1.length c1)∧w.cell? ⟨(ad.add (i.toNat*4)).block,(ad.add (i.toNat*4)).off+2,none⟩=some (.int .i64 (rd_T127 xs i).f2)∧w.cell? ⟨(ad.add (i.toNat*4)).block,(ad.add (i.toNat*4)).off+3,none⟩=some (.int .i64 (rd_T127 xs i).f3)∧(rd_T127 xs i).f1.length≤c1∧Kd.string.C w A1 (rd_T127 xs i).f1.length (rd_T127 xs i).f1:=by
  obtain⟨ad,c,e,_,hK,hc0⟩:=Kd.C_get h z127 i h0 h1
  have hc:∀j u,c[j]?=some u→w.cell? (ad.add (i.toNat*4+j))=some u:=hc0
  obtain⟨A1,c1,rfl,l1,g1⟩:=k127_open hK
  exact⟨ad,A1,c1,e,hc 0 _ rfl,by rw[←add_field _ _ 1 (by omega)];exact hc 1 _ rfl,by rw[←add_field _ _ 2 (by omega)];exact hc 2 _ rfl,by rw[←add_field _ _ 3 (by omega)];exact hc 3 _ rfl,l1,g1⟩
structure S114 where
  f0:Int
  f1:Int
  f2:ByteArray
  f3:Int
def z114:S114:=⟨(0:Int),(0:Int),(⟨#[]⟩:ByteArray),(0:Int)⟩
def k114:Kd S114:=Kd.iso (Kd.pair (Kd.int .i64) (Kd.pair (Kd.int .i64) (Kd.pair Kd.string (Kd.int .i64)))) (fun x:S114=>(x.f0,x.f1,x.f2,x.f3))
theorem k114_open {w:World} {x:S114} {cs:List Value} (h:k114.K w x cs):cs=[.int .i64 x.f0,.int .i64 x.f1,.string x.f2,.int .i64 x.f3]:=by
  obtain⟨_,_,rfl,rfl,⟨_,_,rfl,rfl,⟨_,_,rfl,rfl,rfl⟩⟩⟩:=h
  exact rfl
theorem k114_openM {w:World} {base:Nat} {ok:Nat→Prop} {x:S114} {cs:List Value} (h:k114.M w base ok x cs):cs=[.int .i64 x.f0,.int .i64 x.f1,.string x.f2,.int .i64 x.f3]:=by
  obtain⟨_,_,rfl,rfl,⟨_,_,rfl,rfl,⟨_,_,rfl,rfl,rfl⟩⟩⟩:=h
  exact rfl
theorem k114_mkM (w:World) (base:Nat) (ok:Nat→Prop) (x:S114):k114.M w base ok x [.int .i64 x.f0,.int .i64 x.f1,.string x.f2,.int .i64 x.f3]:=⟨[.int .i64 x.f0],[.int .i64 x.f1,.string x.f2,.int .i64 x.f3],rfl,rfl,⟨[.int .i64 x.f1],[.string x.f2,.int .i64 x.f3],rfl,rfl,⟨[.string x.f2],[.int .i64 x.f3],rfl,rfl,rfl⟩⟩⟩
def rd_T114 (xs:List S114) (i:Int):S114:=xs.getD i.toNat z114
theorem at_T114 {w:World} {A:Option Addr} {n:Nat} {xs:List S114} (h:Kd.C k114 w A n xs) (i:Int) (h0:0≤i) (h1:i<n):∃ad,A=some ad∧w.cell? (ad.add (i.toNat*4))=some (.int .i64 (rd_T114 xs i).f0)∧w.cell? ⟨(ad.add (i.toNat*4)).block,(ad.add (i.toNat*4)).off+1,none⟩=some (.int .i64 (rd_T114 xs i).f1)∧w.cell? ⟨(ad.add (i.toNat*4)).block,(ad.add (i.toNat*4)).off+2,none⟩=some (.string (rd_T114 xs i).f2)∧w.cell? ⟨(ad.add (i.toNat*4)).block,(ad.add (i.toNat*4)).off+3,none⟩=some (.int .i64 (rd_T114 xs i).f3):=by
  obtain⟨ad,c,e,_,hK,hc0⟩:=Kd.C_get h z114 i h0 h1
  have hc:∀j u,c[j]?=some u→w.cell? (ad.add (i.toNat*4+j))=some u:=hc0
  obtain rfl:=k114_open hK
  exact⟨ad,e,hc 0 _ rfl,by rw[←add_field _ _ 1 (by omega)];exact hc 1 _ rfl,by rw[←add_field _ _ 2 (by omega)];exact hc 2 _ rfl,by rw[←add_field _ _ 3 (by omega)];exact hc 3 _ rfl⟩
def rd_L11 (xs:List (List S114)) (i:Int):(List S114):=xs.getD i.toNat ([]:List S114)
structure S154 where
  f0:Int
  f1:Int
  f2:ByteArray
  f3:Int
  f4:(List S114)
  f5:(List S114)
  f6:S114
def z154:S154:=⟨(0:Int),(0:Int),(⟨#[]⟩:ByteArray),(0:Int),([]:List S114),([]:List S114),z114⟩
def k154:Kd S154:=Kd.iso (Kd.pair (Kd.int .i64) (Kd.pair (Kd.int .i64) (Kd.pair Kd.string (Kd.pair (Kd.int .i64) (Kd.pair (Kd.slice 114 k114) (Kd.pair (Kd.slice 114 k114) k114)))))) (fun x:S154=>(x.f0,x.f1,x.f2,x.f3,x.f4,x.f5,x.f6))
theorem k154_open {w:World} {x:S154} {cs:List Value} (h:k154.K w x cs):∃A4 c4 A5 c5,cs=[.int .i64 x.f0,.int .i64 x.f1,.string x.f2,.int .i64 x.f3,.slice A4 x.f4.length c4,.slice A5 x.f5.length c5,.int .i64 x.f6.f0,.int .i64 x.f6.f1,.string x.f6.f2,.int .i64 x.f6.f3]∧x.f4.length≤c4∧k114.C w A4 x.f4.length x.f4∧x.f5.length≤c5∧k114.C w A5 x.f5.length x.f5:=by
  obtain⟨_,_,rfl,rfl,⟨_,_,rfl,rfl,⟨_,_,rfl,rfl,⟨_,_,rfl,rfl,⟨_,_,rfl,⟨A4,c4,rfl,l4,g4⟩,⟨_,_,rfl,⟨A5,c5,rfl,l5,g5⟩,s6⟩⟩⟩⟩⟩⟩:=h
  obtain rfl:=k114_open s6
  exact⟨A4,c4,A5,c5,rfl,l4,g4,l5,g5⟩
theorem k154_openM {w:World} {base:Nat} {ok:Nat→Prop} {x:S154} {cs:List Value} (h:k154.M w base ok x cs):∃v4 v5,cs=[.int .i64 x.f0,.int .i64 x.f1,.string x.f2,.int .i64 x.f3,v4,v5,.int .i64 x.f6.f0,.int .i64 x.f6.f1,.string x.f6.f2,.int .i64 x.f6.f3]∧k114.R 114 w base ok v4 x.f4∧k114.R 114 w base ok v5 x.f5:=by
  obtain⟨_,_,rfl,rfl,⟨_,_,rfl,rfl,⟨_,_,rfl,rfl,⟨_,_,rfl,rfl,⟨_,_,rfl,⟨v4,rfl,g4⟩,⟨_,_,rfl,⟨v5,rfl,g5⟩,s6⟩⟩⟩⟩⟩⟩:=h
  obtain rfl:=k114_openM s6
  exact⟨v4,v5,rfl,g4,g5⟩
theorem k154_mkM (w:World) (base:Nat) (ok:Nat→Prop) (x:S154) {v4:Value} (g4:k114.R 114 w base ok v4 x.f4) {v5:Value} (g5:k114.R 114 w base ok v5 x.f5):k154.M w base ok x [.int .i64 x.f0,.int .i64 x.f1,.string x.f2,.int .i64 x.f3,v4,v5,.int .i64 x.f6.f0,.int .i64 x.f6.f1,.string x.f6.f2,.int .i64 x.f6.f3]:=⟨[.int .i64 x.f0],[.int .i64 x.f1,.string x.f2,.int .i64 x.f3,v4,v5,.int .i64 x.f6.f0,.int .i64 x.f6.f1,.string x.f6.f2,.int .i64 x.f6.f3],rfl,rfl,⟨[.int .i64 x.f1],[.string x.f2,.int .i64 x.f3,v4,v5,.int .i64 x.f6.f0,.int .i64 x.f6.f1,.string x.f6.f2,.int .i64 x.f6.f3],rfl,rfl,⟨[.string x.f2],[.int .i64 x.f3,v4,v5,.int .i64 x.f6.f0,.int .i64 x.f6.f1,.string x.f6.f2,.int .i64 x.f6.f3],rfl,rfl,⟨[.int .i64 x.f3],[v4,v5,.int .i64 x.f6.f0,.int .i64 x.f6.f1,.string x.f6.f2,.int .i64 x.f6.f3],rfl,rfl,⟨[v4],[v5,.int .i64 x.f6.f0,.int .i64 x.f6.f1,.string x.f6.f2,.int .i64 x.f6.f3],rfl,⟨v4,rfl,g4⟩,⟨[v5],[.int .i64 x.f6.f0,.int .i64 x.f6.f1,.string x.f6.f2,.int .i64 x.f6.f3],rfl,⟨v5,rfl,g5⟩,(k114_mkM w base ok x.f6)⟩⟩⟩⟩⟩⟩
def rd_T154 (xs:List S154) (i:Int):S154:=xs.getD i.toNat z154
theorem at_T154 {w:World} {A:Option Addr} {n:Nat} {xs:List S154} (h:Kd.C k154 w A n xs) (i:Int) (h0:0≤i) (h1:i<n):∃ad A4 c4 A5 c5,A=some ad∧w.cell? (ad.add (i.toNat*10))=some (.int .i64 (rd_T154 xs i).f0)∧w.cell? ⟨(ad.add (i.toNat*10)).block,(ad.add (i.toNat*10)).off+1,none⟩=some (.int .i64 (rd_T154 xs i).f1)∧w.cell? ⟨(ad.add (i.toNat*10)).block,(ad.add (i.toNat*10)).off+2,none⟩=some (.string (rd_T154 xs i).f2)∧w.cell? ⟨(ad.add (i.toNat*10)).block,(ad.add (i.toNat*10)).off+3,none⟩=some (.int .i64 (rd_T154 xs i).f3)∧w.cell? ⟨(ad.add (i.toNat*10)).block,(ad.add (i.toNat*10)).off+4,none⟩=some (.slice A4 (rd_T154 xs i).f4.length c4)∧w.cell? ⟨(ad.add (i.toNat*10)).block,(ad.add (i.toNat*10)).off+5,none⟩=some (.slice A5 (rd_T154 xs i).f5.length c5)∧w.cell? ⟨(ad.add (i.toNat*10)).block,(ad.add (i.toNat*10)).off+6,none⟩=some (.int .i64 (rd_T154 xs i).f6.f0)∧w.cell? ⟨(ad.add (i.toNat*10)).block,(ad.add (i.toNat*10)).off+7,none⟩=some (.int .i64 (rd_T154 xs i).f6.f1)∧w.cell? ⟨(ad.add (i.toNat*10)).block,(ad.add (i.toNat*10)).off+8,none⟩=some (.string (rd_T154 xs i).f6.f2)∧w.cell? ⟨(ad.add (i.toNat*10)).block,(ad.add (i.toNat*10)).off+9,none⟩=some (.int .i64 (rd_T154 xs i).f6.f3)∧(rd_T154 xs i).f4.length≤c4∧k114.C w A4 (rd_T154 xs i).f4.length (rd_T154 xs i).f4∧(rd_T154 xs i).f5.length≤c5∧k114.C w A5 (rd_T154 xs i).f5.length (rd_T154 xs i).f5:=by
  obtain⟨ad,c,e,_,hK,hc0⟩:=Kd.C_get h z154 i h0 h1
  have hc:∀j u,c[j]?=some u→w.cell? (ad.add (i.toNat*10+j))=some u:=hc0
  obtain⟨A4,c4,A5,c5,rfl,l4,g4,l5,g5⟩:=k154_open hK
  exact⟨ad,A4,c4,A5,c5,e,hc 0 _ rfl,by rw[←add_field _ _ 1 (by omega)];exact hc 1 _ rfl,by rw[←add_field _ _ 2 (by omega)];exact hc 2 _ rfl,by rw[←add_field _ _ 3 (by omega)];exact hc 3 _ rfl,by rw[←add_field _ _ 4 (by omega)];exact hc 4 _ rfl,by rw[←add_field _ _ 5 (by omega)];exact hc 5 _ rfl,by rw[←add_field _ _ 6 (by omega)];exact hc 6 _ rfl,by rw[←add_field _ _ 7 (by omega)];exact hc 7 _ rfl,by rw[←add_field _ _ 8 (by omega)];exact hc 8 _ rfl,by rw[←add_field _ _ 9 (by omega)];exact hc 9 _ rfl,l4,g4,l5,g5⟩
structure S116 where
  f0:ByteArray
  f1:S114
def z116:S116:=⟨(⟨#[]⟩:ByteArray),z114⟩
def k116:Kd S116:=Kd.iso (Kd.pair Kd.string k114) (fun x:S116=>(x.f0,x.f1))
theorem k116_open {w:World} {x:S116} {cs:List Value} (h:k116.K w x cs):cs=[.string x.f0,.int .i64 x.f1.f0,.int .i64 x.f1.f1,.string x.f1.f2,.int .i64 x.f1.f3]:=by
  obtain⟨_,_,rfl,rfl,s1⟩:=h
  obtain rfl:=k114_open s1
  exact rfl
theorem k116_openM {w:World} {base:Nat} {ok:Nat→Prop} {x:S116} {cs:List Value} (h:k116.M w base ok x cs):cs=[.string x.f0,.int .i64 x.f1.f0,.int .i64 x.f1.f1,.string x.f1.f2,.int .i64 x.f1.f3]:=by
  obtain⟨_,_,rfl,rfl,s1⟩:=h
  obtain rfl:=k114_openM s1
  exact rfl
theorem k116_mkM (w:World) (base:Nat) (ok:Nat→Prop) (x:S116):k116.M w base ok x [.string x.f0,.int .i64 x.f1.f0,.int .i64 x.f1.f1,.string x.f1.f2,.int .i64 x.f1.f3]:=⟨[.string x.f0],[.int .i64 x.f1.f0,.int .i64 x.f1.f1,.string x.f1.f2,.int .i64 x.f1.f3],rfl,rfl,(k114_mkM w base ok x.f1)⟩
def rd_T116 (xs:List S116) (i:Int):S116:=xs.getD i.toNat z116
theorem at_T116 {w:World} {A:Option Addr} {n:Nat} {xs:List S116} (h:Kd.C k116 w A n xs) (i:Int) (h0:0≤i) (h1:i<n):∃ad,A=some ad∧w.cell? (ad.add (i.toNat*5))=some (.string (rd_T116 xs i).f0)∧w.cell? ⟨(ad.add (i.toNat*5)).block,(ad.add (i.toNat*5)).off+1,none⟩=some (.int .i64 (rd_T116 xs i).f1.f0)∧w.cell? ⟨(ad.add (i.toNat*5)).block,(ad.add (i.toNat*5)).off+2,none⟩=some (.int .i64 (rd_T116 xs i).f1.f1)∧w.cell? ⟨(ad.add (i.toNat*5)).block,(ad.add (i.toNat*5)).off+3,none⟩=some (.string (rd_T116 xs i).f1.f2)∧w.cell? ⟨(ad.add (i.toNat*5)).block,(ad.add (i.toNat*5)).off+4,none⟩=some (.int .i64 (rd_T116 xs i).f1.f3):=by
  obtain⟨ad,c,e,_,hK,hc0⟩:=Kd.C_get h z116 i h0 h1
  have hc:∀j u,c[j]?=some u→w.cell? (ad.add (i.toNat*5+j))=some u:=hc0
  obtain rfl:=k116_open hK
  exact⟨ad,e,hc 0 _ rfl,by rw[←add_field _ _ 1 (by omega)];exact hc 1 _ rfl,by rw[←add_field _ _ 2 (by omega)];exact hc 2 _ rfl,by rw[←add_field _ _ 3 (by omega)];exact hc 3 _ rfl,by rw[←add_field _ _ 4 (by omega)];exact hc 4 _ rfl⟩
structure S107 where
  f0:ByteArray
  f1:(List ByteArray)
  f2:(List ByteArray)
  f3:ByteArray
def z107:S107:=⟨(⟨#[]⟩:ByteArray),([]:List ByteArray),([]:List ByteArray),(⟨#[]⟩:ByteArray)⟩
def k107:Kd S107:=Kd.iso (Kd.pair Kd.string (Kd.pair (Kd.slice 9 Kd.string) (Kd.pair (Kd.slice 9 Kd.string) Kd.string))) (fun x:S107=>(x.f0,x.f1,x.f2,x.f3))
theorem k107_open {w:World} {x:S107} {cs:List Value} (h:k107.K w x cs):∃A1 c1 A2 c2,cs=[.string x.f0,.slice A1 x.f1.length c1,.slice A2 x.f2.length c2,.string x.f3]∧x.f1.length≤c1∧Kd.string.C w A1 x.f1.length x.f1∧x.f2.length≤c2∧Kd.string.C w A2 x.f2.length x.f2:=by
  obtain⟨_,_,rfl,rfl,⟨_,_,rfl,⟨A1,c1,rfl,l1,g1⟩,⟨_,_,rfl,⟨A2,c2,rfl,l2,g2⟩,rfl⟩⟩⟩:=h
  exact⟨A1,c1,A2,c2,rfl,l1,g1,l2,g2⟩
theorem k107_openM {w:World} {base:Nat} {ok:Nat→Prop} {x:S107} {cs:List Value} (h:k107.M w base ok x cs):∃v1 v2,cs=[.string x.f0,v1,v2,.string x.f3]∧Kd.string.R 9 w base ok v1 x.f1∧Kd.string.R 9 w base ok v2 x.f2:=by
  obtain⟨_,_,rfl,rfl,⟨_,_,rfl,⟨v1,rfl,g1⟩,⟨_,_,rfl,⟨v2,rfl,g2⟩,rfl⟩⟩⟩:=h
  exact⟨v1,v2,rfl,g1,g2⟩
theorem k107_mkM (w:World) (base:Nat) (ok:Nat→Prop) (x:S107) {v1:Value} (g1:Kd.string.R 9 w base ok v1 x.f1) {v2:Value} (g2:Kd.string.R 9 w base ok v2 x.f2):k107.M w base ok x [.string x.f0,v1,v2,.string x.f3]:=⟨[.string x.f0],[v1,v2,.string x.f3],rfl,rfl,⟨[v1],[v2,.string x.f3],rfl,⟨v1,rfl,g1⟩,⟨[v2],[.string x.f3],rfl,⟨v2,rfl,g2⟩,rfl⟩⟩⟩
def rd_T107 (xs:List S107) (i:Int):S107:=xs.getD i.toNat z107
theorem at_T107 {w:World} {A:Option Addr} {n:Nat} {xs:List S107} (h:Kd.C k107 w A n xs) (i:Int) (h0:0≤i) (h1:i<n):∃ad A1 c1 A2 c2,A=some ad∧w.cell? (ad.add (i.toNat*4))=some (.string (rd_T107 xs i).f0)∧w.cell? ⟨(ad.add (i.toNat*4)).block,(ad.add (i.toNat*4)).off+1,none⟩=some (.slice A1 (rd_T107 xs i).f1.length c1)∧w.cell? ⟨(ad.add (i.toNat*4)).block,(ad.add (i.toNat*4)).off+2,none⟩=some (.slice A2 (rd_T107 xs i).f2.length c2)∧w.cell? ⟨(ad.add (i.toNat*4)).block,(ad.add (i.toNat*4)).off+3,none⟩=some (.string (rd_T107 xs i).f3)∧(rd_T107 xs i).f1.length≤c1∧Kd.string.C w A1 (rd_T107 xs i).f1.length (rd_T107 xs i).f1∧(rd_T107 xs i).f2.length≤c2∧Kd.string.C w A2 (rd_T107 xs i).f2.length (rd_T107 xs i).f2:=by
  obtain⟨ad,c,e,_,hK,hc0⟩:=Kd.C_get h z107 i h0 h1
  have hc:∀j u,c[j]?=some u→w.cell? (ad.add (i.toNat*4+j))=some u:=hc0
  obtain⟨A1,c1,A2,c2,rfl,l1,g1,l2,g2⟩:=k107_open hK
  exact⟨ad,A1,c1,A2,c2,e,hc 0 _ rfl,by rw[←add_field _ _ 1 (by omega)];exact hc 1 _ rfl,by rw[←add_field _ _ 2 (by omega)];exact hc 2 _ rfl,by rw[←add_field _ _ 3 (by omega)];exact hc 3 _ rfl,l1,g1,l2,g2⟩
structure S109 where
  f0:ByteArray
  f1:(List ByteArray)
def z109:S109:=⟨(⟨#[]⟩:ByteArray),([]:List ByteArray)⟩
def k109:Kd S109:=Kd.iso (Kd.pair Kd.string (Kd.slice 9 Kd.string)) (fun x:S109=>(x.f0,x.f1))
theorem k109_open {w:World} {x:S109} {cs:List Value} (h:k109.K w x cs):∃A1 c1,cs=[.string x.f0,.slice A1 x.f1.length c1]∧x.f1.length≤c1∧Kd.string.C w A1 x.f1.length x.f1:=by
  obtain⟨_,_,rfl,rfl,⟨A1,c1,rfl,l1,g1⟩⟩:=h
  exact⟨A1,c1,rfl,l1,g1⟩
theorem k109_openM {w:World} {base:Nat} {ok:Nat→Prop} {x:S109} {cs:List Value} (h:k109.M w base ok x cs):∃v1,cs=[.string x.f0,v1]∧Kd.string.R 9 w base ok v1 x.f1:=by
  obtain⟨_,_,rfl,rfl,⟨v1,rfl,g1⟩⟩:=h
  exact⟨v1,rfl,g1⟩
theorem k109_mkM (w:World) (base:Nat) (ok:Nat→Prop) (x:S109) {v1:Value} (g1:Kd.string.R 9 w base ok v1 x.f1):k109.M w base ok x [.string x.f0,v1]:=⟨[.string x.f0],[v1],rfl,rfl,⟨v1,rfl,g1⟩⟩
def rd_T109 (xs:List S109) (i:Int):S109:=xs.getD i.toNat z109
theorem at_T109 {w:World} {A:Option Addr} {n:Nat} {xs:List S109} (h:Kd.C k109 w A n xs) (i:Int) (h0:0≤i) (h1:i<n):∃ad A1 c1,A=some ad∧w.cell? (ad.add (i.toNat*2))=some (.string (rd_T109 xs i).f0)∧w.cell? ⟨(ad.add (i.toNat*2)).block,(ad.add (i.toNat*2)).off+1,none⟩=some (.slice A1 (rd_T109 xs i).f1.length c1)∧(rd_T109 xs i).f1.length≤c1∧Kd.string.C w A1 (rd_T109 xs i).f1.length (rd_T109 xs i).f1:=by
  obtain⟨ad,c,e,_,hK,hc0⟩:=Kd.C_get h z109 i h0 h1
  have hc:∀j u,c[j]?=some u→w.cell? (ad.add (i.toNat*2+j))=some u:=hc0
  obtain⟨A1,c1,rfl,l1,g1⟩:=k109_open hK
  exact⟨ad,A1,c1,e,hc 0 _ rfl,by rw[←add_field _ _ 1 (by omega)];exact hc 1 _ rfl,l1,g1⟩
structure S87 where
  f0:ByteArray
  f1:(List ByteArray)
  f2:Int
  f3:Int
def z87:S87:=⟨(⟨#[]⟩:ByteArray),([]:List ByteArray),(0:Int),(0:Int)⟩
def k87:Kd S87:=Kd.iso (Kd.pair Kd.string (Kd.pair (Kd.slice 9 Kd.string) (Kd.pair (Kd.int .i64) (Kd.int .i64)))) (fun x:S87=>(x.f0,x.f1,x.f2,x.f3))
theorem k87_open {w:World} {x:S87} {cs:List Value} (h:k87.K w x cs):∃A1 c1,cs=[.string x.f0,.slice A1 x.f1.length c1,.int .i64 x.f2,.int .i64 x.f3]∧x.f1.length≤c1∧Kd.string.C w A1 x.f1.length x.f1:=by
  obtain⟨_,_,rfl,rfl,⟨_,_,rfl,⟨A1,c1,rfl,l1,g1⟩,⟨_,_,rfl,rfl,rfl⟩⟩⟩:=h
  exact⟨A1,c1,rfl,l1,g1⟩
theorem k87_openM {w:World} {base:Nat} {ok:Nat→Prop} {x:S87} {cs:List Value} (h:k87.M w base ok x cs):∃v1,cs=[.string x.f0,v1,.int .i64 x.f2,.int .i64 x.f3]∧Kd.string.R 9 w base ok v1 x.f1:=by
  obtain⟨_,_,rfl,rfl,⟨_,_,rfl,⟨v1,rfl,g1⟩,⟨_,_,rfl,rfl,rfl⟩⟩⟩:=h
  exact⟨v1,rfl,g1⟩
theorem k87_mkM (w:World) (base:Nat) (ok:Nat→Prop) (x:S87) {v1:Value} (g1:Kd.string.R 9 w base ok v1 x.f1):k87.M w base ok x [.string x.f0,v1,.int .i64 x.f2,.int .i64 x.f3]:=⟨[.string x.f0],[v1,.int .i64 x.f2,.int .i64 x.f3],rfl,rfl,⟨[v1],[.int .i64 x.f2,.int .i64 x.f3],rfl,⟨v1,rfl,g1⟩,⟨[.int .i64 x.f2],[.int .i64 x.f3],rfl,rfl,rfl⟩⟩⟩
def rd_T87 (xs:List S87) (i:Int):S87:=xs.getD i.toNat z87
theorem at_T87 {w:World} {A:Option Addr} {n:Nat} {xs:List S87} (h:Kd.C k87 w A n xs) (i:Int) (h0:0≤i) (h1:i<n):∃ad A1 c1,A=some ad∧w.cell? (ad.add (i.toNat*4))=some (.string (rd_T87 xs i).f0)∧w.cell? ⟨(ad.add (i.toNat*4)).block,(ad.add (i.toNat*4)).off+1,none⟩=some (.slice A1 (rd_T87 xs i).f1.length c1)∧w.cell? ⟨(ad.add (i.toNat*4)).block,(ad.add (i.toNat*4)).off+2,none⟩=some (.int .i64 (rd_T87 xs i).f2)∧w.cell? ⟨(ad.add (i.toNat*4)).block,(ad.add (i.toNat*4)).off+3,none⟩=some (.int .i64 (rd_T87 xs i).f3)∧(rd_T87 xs i).f1.length≤c1∧Kd.string.C w A1 (rd_T87 xs i).f1.length (rd_T87 xs i).f1:=by
  obtain⟨ad,c,e,_,hK,hc0⟩:=Kd.C_get h z87 i h0 h1
  have hc:∀j u,c[j]?=some u→w.cell? (ad.add (i.toNat*4+j))=some u:=hc0
  obtain⟨A1,c1,rfl,l1,g1⟩:=k87_open hK
  exact⟨ad,A1,c1,e,hc 0 _ rfl,by rw[←add_field _ _ 1 (by omega)];exact hc 1 _ rfl,by rw[←add_field _ _ 2 (by omega)];exact hc 2 _ rfl,by rw[←add_field _ _ 3 (by omega)];exact hc 3 _ rfl,l1,g1⟩
def rd_L17 (xs:List (List S154)) (i:Int):(List S154):=xs.getD i.toNat ([]:List S154)
structure S69 where
  f0:Int
  f1:(List S154)
def z69:S69:=⟨(0:Int),([]:List S154)⟩
def k69:Kd S69:=Kd.iso (Kd.pair (Kd.int .i64) (Kd.slice 154 k154)) (fun x:S69=>(x.f0,x.f1))
theorem k69_open {w:World} {x:S69} {cs:List Value} (h:k69.K w x cs):∃A1 c1,cs=[.int .i64 x.f0,.slice A1 x.f1.length c1]∧x.f1.length≤c1∧k154.C w A1 x.f1.length x.f1:=by
  obtain⟨_,_,rfl,rfl,⟨A1,c1,rfl,l1,g1⟩⟩:=h
  exact⟨A1,c1,rfl,l1,g1⟩
theorem k69_mk (w:World) (x:S69) {A1:Option Addr} {c1:Nat} (l1:x.f1.length≤c1) (g1:k154.C w A1 x.f1.length x.f1):k69.K w x [.int .i64 x.f0,.slice A1 x.f1.length c1]:=⟨[.int .i64 x.f0],[.slice A1 x.f1.length c1],rfl,rfl,⟨A1,c1,rfl,l1,g1⟩⟩
def rd_T69 (xs:List S69) (i:Int):S69:=xs.getD i.toNat z69
theorem at_T69 {w:World} {A:Option Addr} {n:Nat} {xs:List S69} (h:Kd.C k69 w A n xs) (i:Int) (h0:0≤i) (h1:i<n):∃ad A1 c1,A=some ad∧w.cell? (ad.add (i.toNat*2))=some (.int .i64 (rd_T69 xs i).f0)∧w.cell? ⟨(ad.add (i.toNat*2)).block,(ad.add (i.toNat*2)).off+1,none⟩=some (.slice A1 (rd_T69 xs i).f1.length c1)∧(rd_T69 xs i).f1.length≤c1∧k154.C w A1 (rd_T69 xs i).f1.length (rd_T69 xs i).f1:=by
  obtain⟨ad,c,e,_,hK,hc0⟩:=Kd.C_get h z69 i h0 h1
  have hc:∀j u,c[j]?=some u→w.cell? (ad.add (i.toNat*2+j))=some u:=hc0
  obtain⟨A1,c1,rfl,l1,g1⟩:=k69_open hK
  exact⟨ad,A1,c1,e,hc 0 _ rfl,by rw[←add_field _ _ 1 (by omega)];exact hc 1 _ rfl,l1,g1⟩
def rd_L19 (xs:List (List S166)) (i:Int):(List S166):=xs.getD i.toNat ([]:List S166)
structure S62 where
  f0:Int
  f1:(List S166)
def z62:S62:=⟨(0:Int),([]:List S166)⟩
def k62:Kd S62:=Kd.iso (Kd.pair (Kd.int .i64) (Kd.slice 166 k166)) (fun x:S62=>(x.f0,x.f1))
theorem k62_open {w:World} {x:S62} {cs:List Value} (h:k62.K w x cs):∃A1 c1,cs=[.int .i64 x.f0,.slice A1 x.f1.length c1]∧x.f1.length≤c1∧k166.C w A1 x.f1.length x.f1:=by
  obtain⟨_,_,rfl,rfl,⟨A1,c1,rfl,l1,g1⟩⟩:=h
  exact⟨A1,c1,rfl,l1,g1⟩
def rd_T62 (xs:List S62) (i:Int):S62:=xs.getD i.toNat z62
def rd_L21 (xs:List (List S134)) (i:Int):(List S134):=xs.getD i.toNat ([]:List S134)
def rd_L22 (xs:List (List S136)) (i:Int):(List S136):=xs.getD i.toNat ([]:List S136)
def rd_L23 (xs:List (List S138)) (i:Int):(List S138):=xs.getD i.toNat ([]:List S138)
structure S50 where
  f0:(List S134)
  f1:(List S136)
  f2:(List S138)
def z50:S50:=⟨([]:List S134),([]:List S136),([]:List S138)⟩
def k50:Kd S50:=Kd.iso (Kd.pair (Kd.slice 134 k134) (Kd.pair (Kd.slice 136 k136) (Kd.slice 138 k138))) (fun x:S50=>(x.f0,x.f1,x.f2))
theorem k50_open {w:World} {x:S50} {cs:List Value} (h:k50.K w x cs):∃A0 c0 A1 c1 A2 c2,cs=[.slice A0 x.f0.length c0,.slice A1 x.f1.length c1,.slice A2 x.f2.length c2]∧x.f0.length≤c0∧k134.C w A0 x.f0.length x.f0∧x.f1.length≤c1∧k136.C w A1 x.f1.length x.f1∧x.f2.length≤c2∧k138.C w A2 x.f2.length x.f2:=by
  obtain⟨_,_,rfl,⟨A0,c0,rfl,l0,g0⟩,⟨_,_,rfl,⟨A1,c1,rfl,l1,g1⟩,⟨A2,c2,rfl,l2,g2⟩⟩⟩:=h
  exact⟨A0,c0,A1,c1,A2,c2,rfl,l0,g0,l1,g1,l2,g2⟩
def rd_T50 (xs:List S50) (i:Int):S50:=xs.getD i.toNat z50
def rd_L25 (xs:List (List S127)) (i:Int):(List S127):=xs.getD i.toNat ([]:List S127)
structure S36 where
  f0:(List ByteArray)
  f1:Int
  f2:(List ByteArray)
  f3:(List S127)
  f4:(List ByteArray)
def z36:S36:=⟨([]:List ByteArray),(0:Int),([]:List ByteArray),([]:List S127),([]:List ByteArray)⟩
def k36:Kd S36:=Kd.iso (Kd.pair (Kd.slice 9 Kd.string) (Kd.pair (Kd.int .i64) (Kd.pair (Kd.slice 9 Kd.string) (Kd.pair (Kd.slice 127 k127) (Kd.slice 9 Kd.string))))) (fun x:S36=>(x.f0,x.f1,x.f2,x.f3,x.f4))
theorem k36_open {w:World} {x:S36} {cs:List Value} (h:k36.K w x cs):∃A0 c0 A2 c2 A3 c3 A4 c4,cs=[.slice A0 x.f0.length c0,.int .i64 x.f1,.slice A2 x.f2.length c2,.slice A3 x.f3.length c3,.slice A4 x.f4.length c4]∧x.f0.length≤c0∧Kd.string.C w A0 x.f0.length x.f0∧x.f2.length≤c2∧Kd.string.C w A2 x.f2.length x.f2∧x.f3.length≤c3∧k127.C w A3 x.f3.length x.f3∧x.f4.length≤c4∧Kd.string.C w A4 x.f4.length x.f4:=by
  obtain⟨_,_,rfl,⟨A0,c0,rfl,l0,g0⟩,⟨_,_,rfl,rfl,⟨_,_,rfl,⟨A2,c2,rfl,l2,g2⟩,⟨_,_,rfl,⟨A3,c3,rfl,l3,g3⟩,⟨A4,c4,rfl,l4,g4⟩⟩⟩⟩⟩:=h
  exact⟨A0,c0,A2,c2,A3,c3,A4,c4,rfl,l0,g0,l2,g2,l3,g3,l4,g4⟩
def rd_T36 (xs:List S36) (i:Int):S36:=xs.getD i.toNat z36
structure S64 where
  f0:S62
  f1:S50
  f2:S36
def z64:S64:=⟨z62,z50,z36⟩
def k64:Kd S64:=Kd.iso (Kd.pair k62 (Kd.pair k50 k36)) (fun x:S64=>(x.f0,x.f1,x.f2))
theorem k64_open {w:World} {x:S64} {cs:List Value} (h:k64.K w x cs):∃A1 c1 A2 c2 A3 c3 A4 c4 A5 c5 A7 c7 A8 c8 A9 c9,cs=[.int .i64 x.f0.f0,.slice A1 x.f0.f1.length c1,.slice A2 x.f1.f0.length c2,.slice A3 x.f1.f1.length c3,.slice A4 x.f1.f2.length c4,.slice A5 x.f2.f0.length c5,.int .i64 x.f2.f1,.slice A7 x.f2.f2.length c7,.slice A8 x.f2.f3.length c8,.slice A9 x.f2.f4.length c9]∧x.f0.f1.length≤c1∧k166.C w A1 x.f0.f1.length x.f0.f1∧x.f1.f0.length≤c2∧k134.C w A2 x.f1.f0.length x.f1.f0∧x.f1.f1.length≤c3∧k136.C w A3 x.f1.f1.length x.f1.f1∧x.f1.f2.length≤c4∧k138.C w A4 x.f1.f2.length x.f1.f2∧x.f2.f0.length≤c5∧Kd.string.C w A5 x.f2.f0.length x.f2.f0∧x.f2.f2.length≤c7∧Kd.string.C w A7 x.f2.f2.length x.f2.f2∧x.f2.f3.length≤c8∧k127.C w A8 x.f2.f3.length x.f2.f3∧x.f2.f4.length≤c9∧Kd.string.C w A9 x.f2.f4.length x.f2.f4:=by
  obtain⟨_,_,rfl,s0,⟨_,_,rfl,s2,s5⟩⟩:=h
  obtain⟨A1,c1,rfl,l1,g1⟩:=k62_open s0
  obtain⟨A2,c2,A3,c3,A4,c4,rfl,l2,g2,l3,g3,l4,g4⟩:=k50_open s2
  obtain⟨A5,c5,A7,c7,A8,c8,A9,c9,rfl,l5,g5,l7,g7,l8,g8,l9,g9⟩:=k36_open s5
  exact⟨A1,c1,A2,c2,A3,c3,A4,c4,A5,c5,A7,c7,A8,c8,A9,c9,rfl,l1,g1,l2,g2,l3,g3,l4,g4,l5,g5,l7,g7,l8,g8,l9,g9⟩
def rd_T64 (xs:List S64) (i:Int):S64:=xs.getD i.toNat z64
end Go.Proofs.Ytnneadpahjkhgaa.PFnExactSameMemory
