/- Words of the print, and of mine. -/
import Derived.Deep.RegionLaw
import Derived.Laws.CopyOwn
import Derived.Laws.OwnMore
import Derived.Shelf.Bits.Mul64
import Derived.Test.YtcppdkdnpmgpmaaProg
section
namespace Go.Proofs
open Go.Shelf Go.RowKit Go.Lib
def Try.lays212_ren:Go.Shelf.Ren:=⟨fun|212=>68|263=>71|264=>72|n=>n,fun|46=>90|51=>95|146=>96|53=>98|148=>99|n=>n,fun|n=>n⟩
theorem Try.lays212 : Go.Proofs.Lays.n212 Try.prog Try.lays212_ren := {
  mixed:=by kernel_rfl
  f212:=Try.func68.trans (congrArg some (by kernel_rfl))
  f263:=Try.func71.trans (congrArg some (by kernel_rfl))
  f264:=Try.func72.trans (congrArg some (by kernel_rfl))
  t46:=Try.underlying90
  a46:=Try.isAgg90
  z46:=Try.sizeOf90
  v46:=Try.zeroValue90
  t51:=Try.underlying95
  a51:=Try.isAgg95
  z51:=Try.sizeOf95
  v51:=Try.zeroValue95
  t53:=Try.underlying98
  a53:=Try.isAgg98
  z53:=Try.sizeOf98
  v53:=Try.zeroValue98
  t146:=Try.underlying96
  a146:=Try.isAgg96
  z146:=Try.sizeOf96
  v146:=Try.zeroValue96
  t148:=Try.underlying99
  a148:=Try.isAgg99
  z148:=Try.sizeOf99
  v148:=Try.zeroValue99}
theorem Try.bits_Mul (x y:Nat) (hx:x<18446744073709551616) (hy:y<18446744073709551616) (w:World):
    Calls Try.prog 68 #[.int .u64 x,.int .u64 y] w fun e w'=>e= .returned (.tuple #[.int .u64 ((x*y/18446744073709551616:Nat):Int),.int .u64 ((x*y%18446744073709551616:Nat):Int)])∧w'=w:=Any.bits_Mul Try.lays212 x y hx hy w
end Go.Proofs
end
