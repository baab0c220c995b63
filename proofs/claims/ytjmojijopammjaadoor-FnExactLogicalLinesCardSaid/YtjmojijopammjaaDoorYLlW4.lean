/- Words of the print, and of mine. -/
import Derived.Below
import Derived.HandedShaped
import Derived.Shelf.LaysM
import Derived.Shelf.Strings.Replace
import Derived.Shelf.Strings.Split
import Derived.Shelf.Vars
import Derived.Test.YtjmojijopammjaaDoorProg
import Derived.WalkSmall
import Derived.Test.YtjmojijopammjaaDoorYLlW3
section
namespace Go
variable {H:Type} {enc:TypeId×Value→H}
theorem returnsInHanded_and_shaped {a : Assume} {C : Checked} {os : Os} {f : FuncId} {fn : Func} {s : ChangeSpec} {conds : List PathCond} {apart fresh handsOn again : Bool} {X : World → Array Value → Prop}
    (hX:∀(w w':World) (args:Array Value),w.heap=w'.heap→X w args→X w' args)
    (own:ownKnob C.prog.godebug=none) (started:os.Started) (noInit:C.prog.inits.idxOf? f=none) (hfn:C.prog.funcs[f]?=some fn)
    (witness:∃(w:World) (tape:Tape) (i:Input),w.os=os∧(w.forCall tape i).Shaped C.prog∧i.vars=[]∧Input.okWide C.prog (w.forCall tape i) .any w.heap.size f i∧
      ((s.pre enc C.prog fn conds apart (w.forCall tape i).memory i.args∧X (w.forCall tape i).memory i.args)∧sizedMet enc C.prog fn (OpenSpec.ofChange s) apart (w.forCall tape i).memory i.args)∧a.holds C.prog (lone (Frame.enter C.prog f i.args .normal) [] (w.forCall tape i)))
    (contract:∀(W:World) (base:Nat) (args:Array Value) (ds gs:List (DataW H)) (before:List MemPlace),
      (∀(j:Nat) t v,fn.params[j]?=some t→args[j]?=some v→Value.okWide C.prog W .any base t v)→
      DataW.Whole enc C.prog fn.params.toList s.vars apart W args.toList ds gs before→
      conds.all (PathCond.test C.prog ⟨fn.params.toList,ds,s.plain.varTypes C.prog,gs⟩)=true→
      (DataW.weightsEach C.prog (fn.params.toList++s.plain.varTypes C.prog) (ds++gs)).all (· ≤reachBytes)=true→X W args→W.ShapedOpen C.prog→
      a.holds C.prog (lone (Frame.enter C.prog f args .normal) [] W)→
      Calls C.prog f args W fun e W'=>∃v,e= .returned v∧s.post enc C.prog fn apart fresh handsOn again W args v W'):
    ReturnsInHanded a C os f .any (fun w args=>(s.pre enc C.prog fn conds apart w args∧X w args)∧sizedMet enc C.prog fn (OpenSpec.ofChange s) apart w args) (s.post enc C.prog fn apart fresh handsOn again):=by
  refine returnsInHanded_of_calls own started noInit witness ?_
  intro w tape i _ hsh _ hok hpre hholds
  obtain⟨_,_,_,fn',hfn',_,_,_,_,hval⟩:=hok
  have e:fn'=fn:=Option.some.inj (hfn'.symm.trans hfn)
  subst e
  obtain⟨⟨⟨ds,gs,before,hw,hc⟩,hx⟩,hz⟩:=hpre
  have hw':=DataW.Whole.of_heap (w':=w.forCall tape i) (by rfl) hw
  refine(contract (w.forCall tape i) w.heap.size i.args ds gs before hval hw' hc (hz.weights hw) (hX _ _ _ (by rfl) hx) hsh hholds).mono fun e W' ⟨v,he,hp⟩=>?_
  subst he
  exact ChangeSpec.post_blind hp
end Go
namespace Go.Proofs
open Go.Shelf Go.RowKit Go.Lib
def Tryd.lays146_ren:Go.Shelf.Ren:=⟨fun|146=>132|221=>154|268=>169|138=>148|143=>149|195=>164|197=>150|218=>165|219=>166|260=>167|217=>177|225=>174|224=>173|267=>178|266=>179|314=>180|n=>n,fun|9=>9|31=>85|3=>3|4=>4|0=>0|105=>144|21=>21|5=>5|46=>125|119=>174|139=>177|138=>176|146=>136|51=>135|n=>n,fun|1=>0|3=>4|4=>5|n=>n⟩
theorem Tryd.lays146 : Go.Proofs.Lays.n146 Tryd.prog Tryd.lays146_ren := {
  mixed:=by kernel_rfl
  f138:=Tryd.func148.trans (congrArg some (by kernel_rfl))
  f143:=Tryd.func149.trans (congrArg some (by kernel_rfl))
  f146:=Tryd.func132.trans (congrArg some (by kernel_rfl))
  f195:=Tryd.func164.trans (congrArg some (by kernel_rfl))
  f197:=Tryd.func150.trans (congrArg some (by kernel_rfl))
  f217:=Tryd.func177.trans (congrArg some (by kernel_rfl))
  f218:=Tryd.func165.trans (congrArg some (by kernel_rfl))
  f219:=Tryd.func166.trans (congrArg some (by kernel_rfl))
  f221:=Tryd.func154.trans (congrArg some (by kernel_rfl))
  f224:=Tryd.func173.trans (congrArg some (by kernel_rfl))
  f225:=Tryd.func174.trans (congrArg some (by kernel_rfl))
  f260:=Tryd.func167.trans (congrArg some (by kernel_rfl))
  f266:=Tryd.func179.trans (congrArg some (by kernel_rfl))
  f267:=Tryd.func178.trans (congrArg some (by kernel_rfl))
  f268:=Tryd.func169.trans (congrArg some (by kernel_rfl))
  f314:=Tryd.func180.trans (congrArg some (by kernel_rfl))
  t0:=Tryd.underlying0
  a0:=Tryd.isAgg0
  z0:=Tryd.sizeOf0
  v0:=Tryd.zeroValue0
  t3:=Tryd.underlying3
  a3:=Tryd.isAgg3
  z3:=Tryd.sizeOf3
  v3:=Tryd.zeroValue3
  t4:=Tryd.underlying4
  a4:=Tryd.isAgg4
  z4:=Tryd.sizeOf4
  v4:=Tryd.zeroValue4
  t5:=Tryd.underlying5
  a5:=Tryd.isAgg5
  z5:=Tryd.sizeOf5
  v5:=Tryd.zeroValue5
  t9:=Tryd.underlying9
  a9:=Tryd.isAgg9
  z9:=Tryd.sizeOf9
  v9:=Tryd.zeroValue9
  t21:=Tryd.underlying21
  a21:=Tryd.isAgg21
  z21:=Tryd.sizeOf21
  v21:=Tryd.zeroValue21
  t31:=Tryd.underlying85
  a31:=Tryd.isAgg85
  z31:=Tryd.sizeOf85
  v31:=Tryd.zeroValue85
  t46:=Tryd.underlying125
  a46:=Tryd.isAgg125
  z46:=Tryd.sizeOf125
  v46:=Tryd.zeroValue125
  t51:=Tryd.underlying135
  a51:=Tryd.isAgg135
  z51:=Tryd.sizeOf135
  v51:=Tryd.zeroValue135
  t105:=Tryd.underlying144
  a105:=Tryd.isAgg144
  z105:=Tryd.sizeOf144
  v105:=Tryd.zeroValue144
  t119:=Tryd.underlying174
  a119:=Tryd.isAgg174
  z119:=Tryd.sizeOf174
  t138:=Tryd.underlying176
  a138:=Tryd.isAgg176
  z138:=Tryd.sizeOf176
  v138:=Tryd.zeroValue176
  t139:=Tryd.underlying177
  a139:=Tryd.isAgg177
  z139:=Tryd.sizeOf177
  v139:=Tryd.zeroValue177
  t146:=Tryd.underlying136
  a146:=Tryd.isAgg136
  z146:=Tryd.sizeOf136
  v146:=Tryd.zeroValue136
  g1:=by kernel_rfl
  g3:=by kernel_rfl
  g4:=by kernel_rfl}
theorem Tryd.strings_Split (s sep:ByteArray) (m:Int) (w:World) (hs:s.size<4294967281) (hm:w.cell? ⟨0,0,none⟩=some (.int .i64 m)) (h1:1≤sep.size):
    Calls Tryd.prog 132 #[.string s,.string sep] w fun e w'=>
      e= .returned (.slice (some ⟨w.heap.size,0,none⟩) (Lib.countB s sep+1) (Lib.countB s sep+1))∧w'=w.alloc (.cells ((Lib.splitB sep 0 (Lib.countB s sep) s).map Value.string).toArray 9):=Any.strings_Split Tryd.lays146 (by kernel_rfl) s sep m w hs hm h1
def Tryd.lays155_ren:Go.Shelf.Ren:=⟨fun|155=>86|154=>119|138=>148|165=>116|143=>149|166=>45|197=>150|169=>47|195=>164|218=>165|240=>87|241=>143|219=>166|260=>167|276=>120|277=>158|217=>177|225=>174|224=>173|267=>178|266=>179|314=>180|n=>n,fun|9=>9|3=>3|4=>4|72=>70|0=>0|76=>73|105=>144|21=>21|5=>5|70=>68|20=>20|37=>51|75=>72|127=>106|164=>132|46=>125|119=>174|139=>177|138=>176|146=>136|51=>135|80=>75|n=>n,fun|1=>0|3=>4|4=>5|n=>n⟩
theorem Tryd.lays155 : Go.Proofs.Lays.n155 Tryd.prog Tryd.lays155_ren := {
  mixed:=by kernel_rfl
  f138:=Tryd.func148.trans (congrArg some (by kernel_rfl))
  f143:=Tryd.func149.trans (congrArg some (by kernel_rfl))
  f154:=Tryd.func119.trans (congrArg some (by kernel_rfl))
  f155:=Tryd.func86.trans (congrArg some (by kernel_rfl))
  f165:=Tryd.func116.trans (congrArg some (by kernel_rfl))
  f166:=Tryd.func45.trans (congrArg some (by kernel_rfl))
  f169:=Tryd.func47.trans (congrArg some (by kernel_rfl))
  f195:=Tryd.func164.trans (congrArg some (by kernel_rfl))
  f197:=Tryd.func150.trans (congrArg some (by kernel_rfl))
  f217:=Tryd.func177.trans (congrArg some (by kernel_rfl))
  f218:=Tryd.func165.trans (congrArg some (by kernel_rfl))
  f219:=Tryd.func166.trans (congrArg some (by kernel_rfl))
  f224:=Tryd.func173.trans (congrArg some (by kernel_rfl))
  f225:=Tryd.func174.trans (congrArg some (by kernel_rfl))
  f240:=Tryd.func87.trans (congrArg some (by kernel_rfl))
  f241:=Tryd.func143.trans (congrArg some (by kernel_rfl))
  f260:=Tryd.func167.trans (congrArg some (by kernel_rfl))
  f266:=Tryd.func179.trans (congrArg some (by kernel_rfl))
  f267:=Tryd.func178.trans (congrArg some (by kernel_rfl))
  f276:=Tryd.func120.trans (congrArg some (by kernel_rfl))
  f277:=Tryd.func158.trans (congrArg some (by kernel_rfl))
  f314:=Tryd.func180.trans (congrArg some (by kernel_rfl))
  t0:=Tryd.underlying0
  a0:=Tryd.isAgg0
  z0:=Tryd.sizeOf0
  v0:=Tryd.zeroValue0
  t3:=Tryd.underlying3
  a3:=Tryd.isAgg3
  z3:=Tryd.sizeOf3
  v3:=Tryd.zeroValue3
  t4:=Tryd.underlying4
  a4:=Tryd.isAgg4
  z4:=Tryd.sizeOf4
  v4:=Tryd.zeroValue4
  t5:=Tryd.underlying5
  a5:=Tryd.isAgg5
  z5:=Tryd.sizeOf5
  v5:=Tryd.zeroValue5
  t9:=Tryd.underlying9
  a9:=Tryd.isAgg9
  z9:=Tryd.sizeOf9
  v9:=Tryd.zeroValue9
  t20:=Tryd.underlying20
  a20:=Tryd.isAgg20
  z20:=Tryd.sizeOf20
  v20:=Tryd.zeroValue20
  t21:=Tryd.underlying21
  a21:=Tryd.isAgg21
  z21:=Tryd.sizeOf21
  v21:=Tryd.zeroValue21
  t37:=Tryd.underlying51
  a37:=Tryd.isAgg51
  z37:=Tryd.sizeOf51
  v37:=Tryd.zeroValue51
  t46:=Tryd.underlying125
  a46:=Tryd.isAgg125
  z46:=Tryd.sizeOf125
  v46:=Tryd.zeroValue125
  t51:=Tryd.underlying135
  a51:=Tryd.isAgg135
  z51:=Tryd.sizeOf135
  v51:=Tryd.zeroValue135
  t70:=Tryd.underlying68
  a70:=Tryd.isAgg68
  z70:=Tryd.sizeOf68
  v70:=Tryd.zeroValue68
  t72:=Tryd.underlying70
  a72:=Tryd.isAgg70
  z72:=Tryd.sizeOf70
  v72:=Tryd.zeroValue70
  t75:=Tryd.underlying72
  a75:=Tryd.isAgg72
  z75:=Tryd.sizeOf72
  v75:=Tryd.zeroValue72
  t76:=Tryd.underlying73
  a76:=Tryd.isAgg73
  z76:=Tryd.sizeOf73
  v76:=Tryd.zeroValue73
  t105:=Tryd.underlying144
  a105:=Tryd.isAgg144
  z105:=Tryd.sizeOf144
  v105:=Tryd.zeroValue144
  t119:=Tryd.underlying174
  a119:=Tryd.isAgg174
  z119:=Tryd.sizeOf174
  t127:=Tryd.underlying106
  a127:=Tryd.isAgg106
  z127:=Tryd.sizeOf106
  v127:=Tryd.zeroValue106
  t138:=Tryd.underlying176
  a138:=Tryd.isAgg176
  z138:=Tryd.sizeOf176
  v138:=Tryd.zeroValue176
  t139:=Tryd.underlying177
  a139:=Tryd.isAgg177
  z139:=Tryd.sizeOf177
  v139:=Tryd.zeroValue177
  t146:=Tryd.underlying136
  a146:=Tryd.isAgg136
  z146:=Tryd.sizeOf136
  v146:=Tryd.zeroValue136
  t164:=Tryd.underlying132
  a164:=Tryd.isAgg132
  z164:=Tryd.sizeOf132
  v164:=Tryd.zeroValue132
  g1:=by kernel_rfl
  g3:=by kernel_rfl
  g4:=by kernel_rfl}
theorem Tryd.Builder_Extra_155 : Builder.Extra Tryd.prog Tryd.lays155_ren := {
  sizeBuilder:=by kernel_rfl
  liesBuilder:=by kernel_rfl
  t5:=Tryd.underlying5
  a5:=Tryd.isAgg5
  z5:=Tryd.sizeOf5
  v5:=Tryd.zeroValue5
  infoByte:=by kernel_rfl
  cellsByte:=by kernel_rfl
  sizeByte:=by kernel_rfl
  neB5:=by decide}
theorem Tryd.strings_ReplaceAll (s old new:ByteArray) (m:Int) (w:World) (hs:s.size<4294967281) (hm:w.cell? ⟨0,0,none⟩=some (.int .i64 m)) (h1:1≤old.size) (hlen:s.size+Lib.countB s old*new.size≤140737488355328):
    Calls Tryd.prog 86 #[.string s,.string old,.string new] w fun e w'=>
      e= .returned (.string ⟨(Lib.replaceAll s.data.toList old.data.toList new.data.toList).toArray⟩)∧Below w.heap.size w w':=Any.strings_ReplaceAll Tryd.lays155 Tryd.Builder_Extra_155 s old new m w hs hm h1 hlen
end Go.Proofs
namespace Go.Proofs.YtjmojijopammjaaDoorG
open Go.RowKit Go.Proofs.YtjmojijopammjaaDoorW.PrintWords
structure EnvT (w:World):Prop where mk::(len:∃m,w.cell? ⟨0,0,none⟩=some (.int .i64 m))
theorem len_of {w:World} (h:w.ShapedOpen Tryd.prog):∃m,w.cell? ⟨0,0,none⟩=some (.int .i64 m):=cell_of_shapedOpen_int (t:=3) (zero:= #[.int .i64 0]) h (of_decide_eq_true (by kernel_rfl)) (by kernel_rfl) rfl (by kernel_rfl) (by kernel_rfl) Tryd.underlying3
theorem EnvT.below {w w':World} (h:EnvT w) (hb:Below w.heap.size w w'):EnvT w':=⟨(by obtain⟨m,hm⟩:=h.len;exact⟨m,(hb.cell (World.block_lt_of_cell? w _ hm)).trans hm⟩)⟩
theorem replace_calls (s old new:ByteArray) (w:World) (h:EnvT w) (hs:s.size<4294967281) (h1:1≤old.size) (hlen:s.size+Lib.countB s old*new.size≤140737488355328):
    Calls Tryd.prog 86 #[.string s,.string old,.string new] w fun e w'=>e= .returned (.string ⟨(Lib.replaceAll s.data.toList old.data.toList new.data.toList).toArray⟩)∧Below w.heap.size w w':=by
  obtain⟨m,hm⟩:=h.len
  exact Tryd.strings_ReplaceAll s old new m w hs hm h1 hlen
theorem split_calls (s sep:ByteArray) (w:World) (h:EnvT w) (hs:s.size<4294967281) (h1:1≤sep.size):
    Calls Tryd.prog 132 #[.string s,.string sep] w fun e w'=>e= .returned (.slice (some ⟨w.heap.size,0,none⟩) (Lib.countB s sep+1) (Lib.countB s sep+1))∧w'=w.alloc (.cells ((Lib.splitB sep 0 (Lib.countB s sep) s).map Value.string).toArray 9):=by
  obtain⟨m,hm⟩:=h.len
  exact Tryd.strings_Split s sep m w hs hm h1
end Go.Proofs.YtjmojijopammjaaDoorG
end
