/- The printed functions' types. -/
import Derived.Test.YtjmojijopammjaaDoorProg
import Derived.Below
import Derived.Deep.Draws
import Derived.Deep.AppendLies
import Derived.Maps.AppendAt
import Derived.OwnWalk
import Derived.Laws.BytesArg
import Derived.Laws.MakeOwn
import Derived.Laws.OwnMore
import Derived.Deep.OwnRows
import Derived.Tactics
import Derived.Lib.ConvBytes
import Derived.Laws.Slices
import Derived.WalkKit
import Derived.KernelRfl
import Derived.RowKit3
import Derived.Deep.LoopGhost
import Derived.Deep.QuietTactic
import Derived.BigQuiet
import Derived.WideLaws
import Derived.Deep.DeepCutAuto
import Derived.Deep.CutBlock
import Derived.Deep.RegionHeld3
import Derived.Laws.Rows
import Derived.Lib.AppendStr
import Derived.ArgAppend
import Derived.Laws.IdiomCopy
import Derived.OrdersHeld
import Derived.Laws.BitsLemmas
import Derived.RowKit
import Derived.Test.YtjmojijopammjaaDoorYCtW5
import Derived.Lib.Strings
import Derived.Lib.Slices
import Derived.Lib.Walk
import Derived.Lib.Bytealg
namespace Go.Proofs.YtjmojijopammjaaDoor.PFnExactCaptureText
open Go.RowKit Go.Proofs.YtjmojijopammjaaDoorG Go.Proofs.YtjmojijopammjaaDoorW.PrintWords Go.Proofs.YtjmojijopammjaaDoorW.PrintLast Go.Proofs.YtjmojijopammjaaDoorW.PrintMore
attribute [local go_sem] max2_int min2_int max_two min_two max_three min_three max_four min_four
set_option linter.unusedVariables false
set_option linter.unusedSimpArgs false
def errW : Option Int → Value
  |none=> .nilIface
  |some c=> .iface 0 (.int .i64 c)
theorem errW_none:errW none= .nilIface:=rfl
theorem errW_some (c:Int):errW (some c)= .iface 0 (.int .i64 c):=rfl
theorem info5:(Tryd.prog.info? 5).map (fun i=>(i.zero,i.size,i.bytes))=some (some (.int .u8 0),1,1):=by kernel_rfl
theorem info64:(Tryd.prog.info? 64).map (fun i=>(i.zero,i.size,i.bytes))=some (some (.agg #[(.bool false),(.int .i64 0),(.string ⟨#[]⟩)]),3,32):=by kernel_rfl
structure S23 where
  f0:ByteArray
  f1:ByteArray
  f2:Int
  f3:Int
def z23:S23:=⟨(⟨#[]⟩:ByteArray),(⟨#[]⟩:ByteArray),(0:Int),(0:Int)⟩
def k23:Kd S23:=Kd.iso (Kd.pair Kd.string (Kd.pair Kd.string (Kd.pair (Kd.int .i64) (Kd.int .i64)))) (fun x:S23=>(x.f0,x.f1,x.f2,x.f3))
theorem k23_open {w:World} {x:S23} {cs:List Value} (h:k23.K w x cs):cs=[.string x.f0,.string x.f1,.int .i64 x.f2,.int .i64 x.f3]:=by
  obtain⟨_,_,rfl,rfl,⟨_,_,rfl,rfl,⟨_,_,rfl,rfl,rfl⟩⟩⟩:=h
  exact rfl
def rd_T23 (xs:List S23) (i:Int):S23:=xs.getD i.toNat z23
structure S37 where
  f0:Int
  f1:Int
  f2:ByteArray
  f3:Int
def z37:S37:=⟨(0:Int),(0:Int),(⟨#[]⟩:ByteArray),(0:Int)⟩
def k37:Kd S37:=Kd.iso (Kd.pair (Kd.int .i64) (Kd.pair (Kd.int .i64) (Kd.pair Kd.string (Kd.int .i64)))) (fun x:S37=>(x.f0,x.f1,x.f2,x.f3))
theorem k37_open {w:World} {x:S37} {cs:List Value} (h:k37.K w x cs):cs=[.int .i64 x.f0,.int .i64 x.f1,.string x.f2,.int .i64 x.f3]:=by
  obtain⟨_,_,rfl,rfl,⟨_,_,rfl,rfl,⟨_,_,rfl,rfl,rfl⟩⟩⟩:=h
  exact rfl
def rd_T37 (xs:List S37) (i:Int):S37:=xs.getD i.toNat z37
structure S62 where
  f0:Bool
  f1:Int
  f2:ByteArray
def z62:S62:=⟨false,(0:Int),(⟨#[]⟩:ByteArray)⟩
def k62:Kd S62:=Kd.iso (Kd.pair Kd.bool (Kd.pair (Kd.int .i64) Kd.string)) (fun x:S62=>(x.f0,x.f1,x.f2))
theorem k62_open {w:World} {x:S62} {cs:List Value} (h:k62.K w x cs):cs=[.bool x.f0,.int .i64 x.f1,.string x.f2]:=by
  obtain⟨_,_,rfl,rfl,⟨_,_,rfl,rfl,rfl⟩⟩:=h
  exact rfl
def rd_T62 (xs:List S62) (i:Int):S62:=xs.getD i.toNat z62
theorem at_T62 {w:World} {A:Option Addr} {n:Nat} {xs:List S62} (h:Kd.C k62 w A n xs) (i:Int) (h0:0≤i) (h1:i<n):∃ad,A=some ad∧w.cell? (ad.add (i.toNat*3))=some (.bool (rd_T62 xs i).f0)∧w.cell? ⟨(ad.add (i.toNat*3)).block,(ad.add (i.toNat*3)).off+1,none⟩=some (.int .i64 (rd_T62 xs i).f1)∧w.cell? ⟨(ad.add (i.toNat*3)).block,(ad.add (i.toNat*3)).off+2,none⟩=some (.string (rd_T62 xs i).f2):=by
  obtain⟨ad,c,e,_,hK,hc0⟩:=Kd.C_get h z62 i h0 h1
  have hc:∀j u,c[j]?=some u→w.cell? (ad.add (i.toNat*3+j))=some u:=hc0
  obtain rfl:=k62_open hK
  exact⟨ad,e,hc 0 _ rfl,by rw[←add_field _ _ 1 (by omega)];exact hc 1 _ rfl,by rw[←add_field _ _ 2 (by omega)];exact hc 2 _ rfl⟩
structure S64 where
  f0:Bool
  f1:Int
  f2:ByteArray
def z64:S64:=⟨false,(0:Int),(⟨#[]⟩:ByteArray)⟩
def k64:Kd S64:=Kd.iso (Kd.pair Kd.bool (Kd.pair (Kd.int .i64) Kd.string)) (fun x:S64=>(x.f0,x.f1,x.f2))
theorem k64_open {w:World} {x:S64} {cs:List Value} (h:k64.K w x cs):cs=[.bool x.f0,.int .i64 x.f1,.string x.f2]:=by
  obtain⟨_,_,rfl,rfl,⟨_,_,rfl,rfl,rfl⟩⟩:=h
  exact rfl
theorem k64_openM {w:World} {base:Nat} {ok:Nat→Prop} {x:S64} {cs:List Value} (h:k64.M w base ok x cs):cs=[.bool x.f0,.int .i64 x.f1,.string x.f2]:=by
  obtain⟨_,_,rfl,rfl,⟨_,_,rfl,rfl,rfl⟩⟩:=h
  exact rfl
theorem k64_mkM (w:World) (base:Nat) (ok:Nat→Prop) (x:S64):k64.M w base ok x [.bool x.f0,.int .i64 x.f1,.string x.f2]:=⟨[.bool x.f0],[.int .i64 x.f1,.string x.f2],rfl,rfl,⟨[.int .i64 x.f1],[.string x.f2],rfl,rfl,rfl⟩⟩
def rd_T64 (xs:List S64) (i:Int):S64:=xs.getD i.toNat z64
theorem at_T64 {w:World} {A:Option Addr} {n:Nat} {xs:List S64} (h:Kd.C k64 w A n xs) (i:Int) (h0:0≤i) (h1:i<n):∃ad,A=some ad∧w.cell? (ad.add (i.toNat*3))=some (.bool (rd_T64 xs i).f0)∧w.cell? ⟨(ad.add (i.toNat*3)).block,(ad.add (i.toNat*3)).off+1,none⟩=some (.int .i64 (rd_T64 xs i).f1)∧w.cell? ⟨(ad.add (i.toNat*3)).block,(ad.add (i.toNat*3)).off+2,none⟩=some (.string (rd_T64 xs i).f2):=by
  obtain⟨ad,c,e,_,hK,hc0⟩:=Kd.C_get h z64 i h0 h1
  have hc:∀j u,c[j]?=some u→w.cell? (ad.add (i.toNat*3+j))=some u:=hc0
  obtain rfl:=k64_open hK
  exact⟨ad,e,hc 0 _ rfl,by rw[←add_field _ _ 1 (by omega)];exact hc 1 _ rfl,by rw[←add_field _ _ 2 (by omega)];exact hc 2 _ rfl⟩
def rd_L8 (xs:List (List S64)) (i:Int):(List S64):=xs.getD i.toNat ([]:List S64)
def rd_L9 (xs:List (List S62)) (i:Int):(List S62):=xs.getD i.toNat ([]:List S62)
end Go.Proofs.YtjmojijopammjaaDoor.PFnExactCaptureText
