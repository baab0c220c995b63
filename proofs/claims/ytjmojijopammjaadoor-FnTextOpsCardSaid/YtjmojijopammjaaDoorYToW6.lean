/- Words of the print, and of mine. -/
import Derived.Shelf.Strings.Repeat
import Derived.Test.YtjmojijopammjaaDoorProg
import Derived.Test.YtjmojijopammjaaDoorYToW5
section
namespace Go.Proofs
open Go.Shelf Go.RowKit Go.Lib
def Tryd.lays105_ren:Go.Shelf.Ren:=⟨fun|105=>82|212=>114|99=>115|165=>116|166=>45|170=>117|169=>47|263=>140|264=>141|206=>142|240=>87|241=>143|276=>120|277=>158|n=>n,fun|9=>9|3=>3|4=>4|20=>20|0=>0|46=>125|109=>126|5=>5|72=>70|76=>73|51=>135|146=>136|53=>82|148=>148|70=>68|37=>51|75=>72|127=>106|164=>132|80=>75|n=>n,fun|n=>n⟩
theorem Tryd.lays105 : Go.Proofs.Lays.n105 Tryd.prog Tryd.lays105_ren := {
  mixed:=by kernel_rfl
  f99:=Tryd.func115.trans (congrArg some (by kernel_rfl))
  f105:=Tryd.func82.trans (congrArg some (by kernel_rfl))
  f165:=Tryd.func116.trans (congrArg some (by kernel_rfl))
  f166:=Tryd.func45.trans (congrArg some (by kernel_rfl))
  f169:=Tryd.func47.trans (congrArg some (by kernel_rfl))
  f170:=Tryd.func117.trans (congrArg some (by kernel_rfl))
  f206:=Tryd.func142.trans (congrArg some (by kernel_rfl))
  f212:=Tryd.func114.trans (congrArg some (by kernel_rfl))
  f240:=Tryd.func87.trans (congrArg some (by kernel_rfl))
  f241:=Tryd.func143.trans (congrArg some (by kernel_rfl))
  f263:=Tryd.func140.trans (congrArg some (by kernel_rfl))
  f264:=Tryd.func141.trans (congrArg some (by kernel_rfl))
  f276:=Tryd.func120.trans (congrArg some (by kernel_rfl))
  f277:=Tryd.func158.trans (congrArg some (by kernel_rfl))
  t0:=Tryd.underlying0
  a0:=Tryd.isAgg0
  z0:=Tryd.sizeOf0
  v0:=Tryd.zeroValue0
  t3:=Tryd.underlying3
  a3:=Tryd.isAgg3
  z3:=Tryd.sizeOf3
  v3:=Tryd.zeroValue3
  t4:=Tryd.underlying4
  a4:=Tryd.isAgg4
  z4:=Tryd.sizeOf4
  v4:=Tryd.zeroValue4
  t5:=Tryd.underlying5
  a5:=Tryd.isAgg5
  z5:=Tryd.sizeOf5
  v5:=Tryd.zeroValue5
  t9:=Tryd.underlying9
  a9:=Tryd.isAgg9
  z9:=Tryd.sizeOf9
  v9:=Tryd.zeroValue9
  t20:=Tryd.underlying20
  a20:=Tryd.isAgg20
  z20:=Tryd.sizeOf20
  v20:=Tryd.zeroValue20
  t37:=Tryd.underlying51
  a37:=Tryd.isAgg51
  z37:=Tryd.sizeOf51
  v37:=Tryd.zeroValue51
  t46:=Tryd.underlying125
  a46:=Tryd.isAgg125
  z46:=Tryd.sizeOf125
  v46:=Tryd.zeroValue125
  t51:=Tryd.underlying135
  a51:=Tryd.isAgg135
  z51:=Tryd.sizeOf135
  v51:=Tryd.zeroValue135
  t53:=Tryd.underlying82
  a53:=Tryd.isAgg82
  z53:=Tryd.sizeOf82
  v53:=Tryd.zeroValue82
  t70:=Tryd.underlying68
  a70:=Tryd.isAgg68
  z70:=Tryd.sizeOf68
  v70:=Tryd.zeroValue68
  t72:=Tryd.underlying70
  a72:=Tryd.isAgg70
  z72:=Tryd.sizeOf70
  v72:=Tryd.zeroValue70
  t75:=Tryd.underlying72
  a75:=Tryd.isAgg72
  z75:=Tryd.sizeOf72
  v75:=Tryd.zeroValue72
  t76:=Tryd.underlying73
  a76:=Tryd.isAgg73
  z76:=Tryd.sizeOf73
  v76:=Tryd.zeroValue73
  t109:=Tryd.underlying126
  a109:=Tryd.isAgg126
  z109:=Tryd.sizeOf126
  v109:=Tryd.zeroValue126
  t127:=Tryd.underlying106
  a127:=Tryd.isAgg106
  z127:=Tryd.sizeOf106
  v127:=Tryd.zeroValue106
  t146:=Tryd.underlying136
  a146:=Tryd.isAgg136
  z146:=Tryd.sizeOf136
  v146:=Tryd.zeroValue136
  t148:=Tryd.underlying148
  a148:=Tryd.isAgg148
  z148:=Tryd.sizeOf148
  v148:=Tryd.zeroValue148
  t164:=Tryd.underlying132
  a164:=Tryd.isAgg132
  z164:=Tryd.sizeOf132
  v164:=Tryd.zeroValue132}
theorem Tryd.Builder_Extra_105 : Builder.Extra Tryd.prog Tryd.lays105_ren := {
  sizeBuilder:=by kernel_rfl
  liesBuilder:=by kernel_rfl
  t5:=Tryd.underlying5
  a5:=Tryd.isAgg5
  z5:=Tryd.sizeOf5
  v5:=Tryd.zeroValue5
  infoByte:=by kernel_rfl
  cellsByte:=by kernel_rfl
  sizeByte:=by kernel_rfl
  neB5:=by decide}
theorem Tryd.strings_Repeat (s:ByteArray) (c:Nat) (w:World) (hc:c≤9223372036854775807) (hlen:s.size*c≤140737488355328):
    Calls Tryd.prog 82 #[.string s,.int .i64 c] w fun e w'=>e= .returned (.string ⟨(Lib.repeatL s.data.toList c).toArray⟩)∧Below w.heap.size w w':=Any.strings_Repeat Tryd.lays105 Tryd.Builder_Extra_105 s c w hc hlen
end Go.Proofs
end
