/- Words of the print, and of mine. -/
import Derived.Shelf.Strings.Trim
import Derived.Test.YtjmojijopammjaaDoorProg
import Derived.Test.YtjmojijopammjaaDoorYLlW4
section
namespace Go.Proofs
open Go.Shelf Go.RowKit Go.Lib
def Tryd.lays160_ren:Go.Shelf.Ren:=⟨fun|160=>107|232=>109|231=>134|227=>110|234=>111|233=>135|236=>112|235=>136|228=>137|271=>138|151=>139|197=>150|120=>156|152=>157|260=>167|137=>171|119=>172|224=>173|225=>174|217=>177|266=>179|n=>n,fun|9=>9|4=>4|3=>3|5=>5|117=>120|116=>119|0=>0|124=>123|21=>21|105=>144|46=>125|119=>174|139=>177|138=>176|n=>n,fun|3=>4|4=>5|n=>n⟩
theorem Tryd.lays160 : Go.Proofs.Lays.n160 Tryd.prog Tryd.lays160_ren := {
  mixed:=by kernel_rfl
  f119:=Tryd.func172.trans (congrArg some (by kernel_rfl))
  f120:=Tryd.func156.trans (congrArg some (by kernel_rfl))
  f137:=Tryd.func171.trans (congrArg some (by kernel_rfl))
  f151:=Tryd.func139.trans (congrArg some (by kernel_rfl))
  f152:=Tryd.func157.trans (congrArg some (by kernel_rfl))
  f160:=Tryd.func107.trans (congrArg some (by kernel_rfl))
  f197:=Tryd.func150.trans (congrArg some (by kernel_rfl))
  f217:=Tryd.func177.trans (congrArg some (by kernel_rfl))
  f224:=Tryd.func173.trans (congrArg some (by kernel_rfl))
  f225:=Tryd.func174.trans (congrArg some (by kernel_rfl))
  f227:=Tryd.func110.trans (congrArg some (by kernel_rfl))
  f228:=Tryd.func137.trans (congrArg some (by kernel_rfl))
  f231:=Tryd.func134.trans (congrArg some (by kernel_rfl))
  f232:=Tryd.func109.trans (congrArg some (by kernel_rfl))
  f233:=Tryd.func135.trans (congrArg some (by kernel_rfl))
  f234:=Tryd.func111.trans (congrArg some (by kernel_rfl))
  f235:=Tryd.func136.trans (congrArg some (by kernel_rfl))
  f236:=Tryd.func112.trans (congrArg some (by kernel_rfl))
  f260:=Tryd.func167.trans (congrArg some (by kernel_rfl))
  f266:=Tryd.func179.trans (congrArg some (by kernel_rfl))
  f271:=Tryd.func138.trans (congrArg some (by kernel_rfl))
  t0:=Tryd.underlying0
  a0:=Tryd.isAgg0
  z0:=Tryd.sizeOf0
  v0:=Tryd.zeroValue0
  t3:=Tryd.underlying3
  a3:=Tryd.isAgg3
  z3:=Tryd.sizeOf3
  v3:=Tryd.zeroValue3
  t4:=Tryd.underlying4
  a4:=Tryd.isAgg4
  z4:=Tryd.sizeOf4
  v4:=Tryd.zeroValue4
  t5:=Tryd.underlying5
  a5:=Tryd.isAgg5
  z5:=Tryd.sizeOf5
  v5:=Tryd.zeroValue5
  t9:=Tryd.underlying9
  a9:=Tryd.isAgg9
  z9:=Tryd.sizeOf9
  v9:=Tryd.zeroValue9
  t21:=Tryd.underlying21
  a21:=Tryd.isAgg21
  z21:=Tryd.sizeOf21
  v21:=Tryd.zeroValue21
  t46:=Tryd.underlying125
  a46:=Tryd.isAgg125
  z46:=Tryd.sizeOf125
  v46:=Tryd.zeroValue125
  t105:=Tryd.underlying144
  a105:=Tryd.isAgg144
  z105:=Tryd.sizeOf144
  v105:=Tryd.zeroValue144
  t116:=Tryd.underlying119
  a116:=Tryd.isAgg119
  z116:=Tryd.sizeOf119
  t117:=Tryd.underlying120
  a117:=Tryd.isAgg120
  z117:=Tryd.sizeOf120
  v117:=Tryd.zeroValue120
  t119:=Tryd.underlying174
  a119:=Tryd.isAgg174
  z119:=Tryd.sizeOf174
  t124:=Tryd.underlying123
  a124:=Tryd.isAgg123
  z124:=Tryd.sizeOf123
  v124:=Tryd.zeroValue123
  t138:=Tryd.underlying176
  a138:=Tryd.isAgg176
  z138:=Tryd.sizeOf176
  v138:=Tryd.zeroValue176
  t139:=Tryd.underlying177
  a139:=Tryd.isAgg177
  z139:=Tryd.sizeOf177
  v139:=Tryd.zeroValue177
  g3:=by kernel_rfl
  g4:=by kernel_rfl}
theorem Tryd.strings_Trim_one (s:ByteArray) (c:UInt8) (hc:c.toNat<128) (w:World) (hs:s.size≤9223372036854775807):
    Calls Tryd.prog 107 #[.string s,.string ⟨#[c]⟩] w fun e w'=>e= .returned (.string ⟨(Lib.trimB s.data.toList c).toArray⟩)∧(w'=w∨w'=w.drew):=Any.strings_Trim_one Tryd.lays160 s c hc w hs
end Go.Proofs
end
