/-
  NARROWER THAN 'FOR EVERY INPUT', by the rows' own cells (each row's printed sentence says how): FnExactSameGen: loops.
  DERIVED. THE GIVEN ROWS OF THIS SEAT. 10 by the template 'for every input the law returns true; each argument reads behind the call as it read before'; 0 by the template 'total and deterministic' (their statements: YtabbpnkbhapibaaTotals.lean).
  GIVEN WITH THE SEED: the statements are not yours to turn. If you find one false, say at which input.
  Laid BY PROGRAM, IN A SANDBOX (cutbox-rows.mjs): the forced cells as the released guide's own fill.sh prints them over the translation 4703722cb9f02127… (all of the seat's roots in one cut). By AI agents, Wed Nov 11 2026. No macro, syntax, notation, axiom, sorry.
-/
import Derived.Test.YtabbpnkbhapibaaChecked
import GoSem.Claim
import GoSem.ClaimJoined
import GoSem.ClaimMapViews
import Derived.JoinedTies
import Derived.KernelRfl
namespace Go.Proofs.Ytabbpnkbhapibaa
/- THE CELL 'sum', in the pinned program and in every row, IS THE sha256 OF THE DUMP (.gsa) THAT YtabbpnkbhapibaaProg.lean LOADS. Nothing in Lean hashes anything: it is a label: what it is worth is what the hold of that sum in a sandbox is worth. -/
noncomputable def Try.pinned : Pinned := { name := "ytabbpnkbhapibaa", sum := "4703722cb9f02127ea42d3e4dedf74b4fc3a092d34f45b3c26f3f4ff65b1717b", checked := Try.checked }
namespace Rows
def none {H : Type} : Left H := { results := [], args := [] }

/-- 'laws.FnTranslate': WHATEVER THE INPUT: true; the input reads as it did. -/
def fnTranslateSpec : ChangeSpec := { name := "fnTranslate", fn := fun _ => fun
  | [d] => { results := [.lit (.bool true)], args := [d] }
  | _ => none }
def fnTranslateRow : OpenClaim := { program := "ytabbpnkbhapibaa", sum := "4703722cb9f02127ea42d3e4dedf74b4fc3a092d34f45b3c26f3f4ff65b1717b", func := "loop.example/g00873/laws.FnTranslate", spec := "fnTranslate", apart := false }
def FnTranslateSaid : Prop := fnTranslateRow.holds Try.pinned (OpenSpec.ofChange fnTranslateSpec)

/-- ITS FALSE NEIGHBOUR: 'it returns false'. Refute it at one input. -/
def fnTranslateWrong : ChangeSpec := { name := "fnTranslate", fn := fun _ => fun
  | [d] => { results := [.lit (.bool false)], args := [d] }
  | _ => none }
def FnTranslateWrongFalsely : Prop := fnTranslateRow.holds Try.pinned (OpenSpec.ofChange fnTranslateWrong)

/-- 'laws.FnCaptures': WHATEVER THE INPUT: true; the input reads as it did. -/
def fnCapturesSpec : ChangeSpec := { name := "fnCaptures", fn := fun _ => fun
  | [d] => { results := [.lit (.bool true)], args := [d] }
  | _ => none }
def fnCapturesRow : OpenClaim := { program := "ytabbpnkbhapibaa", sum := "4703722cb9f02127ea42d3e4dedf74b4fc3a092d34f45b3c26f3f4ff65b1717b", func := "loop.example/g00873/laws.FnCaptures", spec := "fnCaptures", unfollowed := true, recurses := true, apart := false }
def FnCapturesSaid : Prop := fnCapturesRow.holds Try.pinned (OpenSpec.ofChange fnCapturesSpec)

/-- ITS FALSE NEIGHBOUR: 'it returns false'. Refute it at one input. -/
def fnCapturesWrong : ChangeSpec := { name := "fnCaptures", fn := fun _ => fun
  | [d] => { results := [.lit (.bool false)], args := [d] }
  | _ => none }
def FnCapturesWrongFalsely : Prop := fnCapturesRow.holds Try.pinned (OpenSpec.ofChange fnCapturesWrong)

/-- 'laws.FnExactPatternConstant': WHATEVER THE INPUT: true; the input reads as it did. -/
def fnExactPatternConstantSpec : ChangeSpec := { name := "fnExactPatternConstant", fn := fun _ => fun
  | [d] => { results := [.lit (.bool true)], args := [d] }
  | _ => none }
def fnExactPatternConstantRow : OpenClaim := { program := "ytabbpnkbhapibaa", sum := "4703722cb9f02127ea42d3e4dedf74b4fc3a092d34f45b3c26f3f4ff65b1717b", func := "loop.example/g00873/laws.FnExactPatternConstant", spec := "fnExactPatternConstant", recurses := true, apart := false }
def FnExactPatternConstantSaid : Prop := fnExactPatternConstantRow.holds Try.pinned (OpenSpec.ofChange fnExactPatternConstantSpec)

/-- ITS FALSE NEIGHBOUR: 'it returns false'. Refute it at one input. -/
def fnExactPatternConstantWrong : ChangeSpec := { name := "fnExactPatternConstant", fn := fun _ => fun
  | [d] => { results := [.lit (.bool false)], args := [d] }
  | _ => none }
def FnExactPatternConstantWrongFalsely : Prop := fnExactPatternConstantRow.holds Try.pinned (OpenSpec.ofChange fnExactPatternConstantWrong)

/-- 'laws.FnExactSameGen': WHATEVER THE INPUT: true; the input reads as it did. -/
def fnExactSameGenSpec : ChangeSpec := { name := "fnExactSameGen", fn := fun _ => fun
  | [d1, d2] => { results := [.lit (.bool true)], args := [d1, d2] }
  | _ => none }
def fnExactSameGenRow : OpenClaim := { program := "ytabbpnkbhapibaa", sum := "4703722cb9f02127ea42d3e4dedf74b4fc3a092d34f45b3c26f3f4ff65b1717b", func := "loop.example/g00873/laws.FnExactSameGen", spec := "fnExactSameGen", unfollowed := true, recurses := true, loops := true, apart := false }
def FnExactSameGenSaid : Prop := fnExactSameGenRow.holds Try.pinned (OpenSpec.ofChange fnExactSameGenSpec)

/-- ITS FALSE NEIGHBOUR: 'it returns false'. Refute it at one input. -/
def fnExactSameGenWrong : ChangeSpec := { name := "fnExactSameGen", fn := fun _ => fun
  | [d1, d2] => { results := [.lit (.bool false)], args := [d1, d2] }
  | _ => none }
def FnExactSameGenWrongFalsely : Prop := fnExactSameGenRow.holds Try.pinned (OpenSpec.ofChange fnExactSameGenWrong)

/-- 'laws.FnExactFinalOf': WHATEVER THE INPUT: true; the input reads as it did. -/
def fnExactFinalOfSpec : ChangeSpec := { name := "fnExactFinalOf", fn := fun _ => fun
  | [d] => { results := [.lit (.bool true)], args := [d] }
  | _ => none }
def fnExactFinalOfRow : OpenClaim := { program := "ytabbpnkbhapibaa", sum := "4703722cb9f02127ea42d3e4dedf74b4fc3a092d34f45b3c26f3f4ff65b1717b", func := "loop.example/g00873/laws.FnExactFinalOf", spec := "fnExactFinalOf", unfollowed := true, recurses := true, apart := false }
def FnExactFinalOfSaid : Prop := fnExactFinalOfRow.holds Try.pinned (OpenSpec.ofChange fnExactFinalOfSpec)

/-- ITS FALSE NEIGHBOUR: 'it returns false'. Refute it at one input. -/
def fnExactFinalOfWrong : ChangeSpec := { name := "fnExactFinalOf", fn := fun _ => fun
  | [d] => { results := [.lit (.bool false)], args := [d] }
  | _ => none }
def FnExactFinalOfWrongFalsely : Prop := fnExactFinalOfRow.holds Try.pinned (OpenSpec.ofChange fnExactFinalOfWrong)

/-- 'laws.FnExactValidConsole': WHATEVER THE INPUT: true; the input reads as it did. -/
def fnExactValidConsoleSpec : ChangeSpec := { name := "fnExactValidConsole", fn := fun _ => fun
  | [d] => { results := [.lit (.bool true)], args := [d] }
  | _ => none }
def fnExactValidConsoleRow : OpenClaim := { program := "ytabbpnkbhapibaa", sum := "4703722cb9f02127ea42d3e4dedf74b4fc3a092d34f45b3c26f3f4ff65b1717b", func := "loop.example/g00873/laws.FnExactValidConsole", spec := "fnExactValidConsole", unfollowed := true, recurses := true, apart := false }
def FnExactValidConsoleSaid : Prop := fnExactValidConsoleRow.holds Try.pinned (OpenSpec.ofChange fnExactValidConsoleSpec)

/-- ITS FALSE NEIGHBOUR: 'it returns false'. Refute it at one input. -/
def fnExactValidConsoleWrong : ChangeSpec := { name := "fnExactValidConsole", fn := fun _ => fun
  | [d] => { results := [.lit (.bool false)], args := [d] }
  | _ => none }
def FnExactValidConsoleWrongFalsely : Prop := fnExactValidConsoleRow.holds Try.pinned (OpenSpec.ofChange fnExactValidConsoleWrong)

/-- 'laws.FnExactSameMemory': WHATEVER THE INPUT: true; the input reads as it did. -/
def fnExactSameMemorySpec : ChangeSpec := { name := "fnExactSameMemory", fn := fun _ => fun
  | [d1, d2] => { results := [.lit (.bool true)], args := [d1, d2] }
  | _ => none }
def fnExactSameMemoryRow : OpenClaim := { program := "ytabbpnkbhapibaa", sum := "4703722cb9f02127ea42d3e4dedf74b4fc3a092d34f45b3c26f3f4ff65b1717b", func := "loop.example/g00873/laws.FnExactSameMemory", spec := "fnExactSameMemory", unfollowed := true, recurses := true, apart := false }
def FnExactSameMemorySaid : Prop := fnExactSameMemoryRow.holds Try.pinned (OpenSpec.ofChange fnExactSameMemorySpec)

/-- ITS FALSE NEIGHBOUR: 'it returns false'. Refute it at one input. -/
def fnExactSameMemoryWrong : ChangeSpec := { name := "fnExactSameMemory", fn := fun _ => fun
  | [d1, d2] => { results := [.lit (.bool false)], args := [d1, d2] }
  | _ => none }
def FnExactSameMemoryWrongFalsely : Prop := fnExactSameMemoryRow.holds Try.pinned (OpenSpec.ofChange fnExactSameMemoryWrong)

/-- 'laws.FnExactValidInstr': WHATEVER THE INPUT: true; the input reads as it did. -/
def fnExactValidInstrSpec : ChangeSpec := { name := "fnExactValidInstr", fn := fun _ => fun
  | [d] => { results := [.lit (.bool true)], args := [d] }
  | _ => none }
def fnExactValidInstrRow : OpenClaim := { program := "ytabbpnkbhapibaa", sum := "4703722cb9f02127ea42d3e4dedf74b4fc3a092d34f45b3c26f3f4ff65b1717b", func := "loop.example/g00873/laws.FnExactValidInstr", spec := "fnExactValidInstr", inPlace := ["internal/bytealg.IndexByteString", "internal/bytealg.IndexString"], unfollowed := true, recurses := true, named := ["internal/bytealg.MaxLen"], apart := false }
def FnExactValidInstrSaid : Prop := fnExactValidInstrRow.holds Try.pinned (OpenSpec.ofChange fnExactValidInstrSpec)

/-- ITS FALSE NEIGHBOUR: 'it returns false'. Refute it at one input. -/
def fnExactValidInstrWrong : ChangeSpec := { name := "fnExactValidInstr", fn := fun _ => fun
  | [d] => { results := [.lit (.bool false)], args := [d] }
  | _ => none }
def FnExactValidInstrWrongFalsely : Prop := fnExactValidInstrRow.holds Try.pinned (OpenSpec.ofChange fnExactValidInstrWrong)

/-- 'laws.FnExactStackEffect': WHATEVER THE INPUT: true; the input reads as it did. -/
def fnExactStackEffectSpec : ChangeSpec := { name := "fnExactStackEffect", fn := fun _ => fun
  | [d] => { results := [.lit (.bool true)], args := [d] }
  | _ => none }
def fnExactStackEffectRow : OpenClaim := { program := "ytabbpnkbhapibaa", sum := "4703722cb9f02127ea42d3e4dedf74b4fc3a092d34f45b3c26f3f4ff65b1717b", func := "loop.example/g00873/laws.FnExactStackEffect", spec := "fnExactStackEffect", inPlace := ["internal/bytealg.IndexByteString", "internal/bytealg.IndexString"], unfollowed := true, recurses := true, named := ["internal/bytealg.MaxLen"], apart := false }
def FnExactStackEffectSaid : Prop := fnExactStackEffectRow.holds Try.pinned (OpenSpec.ofChange fnExactStackEffectSpec)

/-- ITS FALSE NEIGHBOUR: 'it returns false'. Refute it at one input. -/
def fnExactStackEffectWrong : ChangeSpec := { name := "fnExactStackEffect", fn := fun _ => fun
  | [d] => { results := [.lit (.bool false)], args := [d] }
  | _ => none }
def FnExactStackEffectWrongFalsely : Prop := fnExactStackEffectRow.holds Try.pinned (OpenSpec.ofChange fnExactStackEffectWrong)

/-- 'laws.FnExactEntryOf': WHATEVER THE INPUT: true; the input reads as it did. -/
def fnExactEntryOfSpec : ChangeSpec := { name := "fnExactEntryOf", fn := fun _ => fun
  | [d1, d2] => { results := [.lit (.bool true)], args := [d1, d2] }
  | _ => none }
def fnExactEntryOfRow : OpenClaim := { program := "ytabbpnkbhapibaa", sum := "4703722cb9f02127ea42d3e4dedf74b4fc3a092d34f45b3c26f3f4ff65b1717b", func := "loop.example/g00873/laws.FnExactEntryOf", spec := "fnExactEntryOf", unfollowed := true, recurses := true, apart := false }
def FnExactEntryOfSaid : Prop := fnExactEntryOfRow.holds Try.pinned (OpenSpec.ofChange fnExactEntryOfSpec)

/-- ITS FALSE NEIGHBOUR: 'it returns false'. Refute it at one input. -/
def fnExactEntryOfWrong : ChangeSpec := { name := "fnExactEntryOf", fn := fun _ => fun
  | [d1, d2] => { results := [.lit (.bool false)], args := [d1, d2] }
  | _ => none }
def FnExactEntryOfWrongFalsely : Prop := fnExactEntryOfRow.holds Try.pinned (OpenSpec.ofChange fnExactEntryOfWrong)

/- THE SECOND FORM. 'bulk': how many values and letters a reading holds, each counted each time it is reached (what is shared counts as often as it is met; a slice's spare places count too). A statement '..UptoSaid' is the law's where the arguments, and the package variables that the reading takes, are together of bulk at most 1048576: NARROWER than '..Said'. Prove '..Said' where nothing that the law and all that it calls make is longer than what came in: it says more and counts as full. Else prove '..UptoSaid'. A law counts once. -/
mutual
def uptoBulk {H : Type} : DataW H → Nat
  | .lit (.string bytes) => bytes.length + 1
  | .lit _ => 1
  | .nil => 1
  | .ptr d => uptoBulk d + 1
  | .slice elems spare => uptoBulkAll elems + uptoBulkAll spare + 1
  | .agg parts => uptoBulkAll parts + 1
  | .iface _ d => uptoBulk d + 1
  | .map entries => uptoBulkEntries entries + 1
  | .held _ => 1
def uptoBulkAll {H : Type} : List (DataW H) → Nat
  | [] => 0
  | d :: r => uptoBulk d + uptoBulkAll r
def uptoBulkEntries {H : Type} : List (Lit × DataW H) → Nat
  | [] => 0
  | x :: r => uptoBulkEntry x + uptoBulkEntries r
def uptoBulkEntry {H : Type} : Lit × DataW H → Nat
  | (.string bytes, d) => bytes.length + uptoBulk d + 1
  | (_, d) => uptoBulk d + 1
 end
def uptoSmall : (H : Type) → List (DataW H) → Bool := fun _ ds => decide (uptoBulkAll ds ≤ 1048576)
def OpenSpec.upto (s : _root_.Go.ChangeSpec) : _root_.Go.OpenSpec := { _root_.Go.OpenSpec.ofChange s with cond := some uptoSmall }

/-- 'laws.FnTranslate', WHERE WHAT IT READS IS OF BULK AT MOST 1048576: true; the input reads as it did. -/
def fnTranslateUptoRow : OpenClaim := { program := "ytabbpnkbhapibaa", sum := "4703722cb9f02127ea42d3e4dedf74b4fc3a092d34f45b3c26f3f4ff65b1717b", func := "loop.example/g00873/laws.FnTranslate", spec := "fnTranslate", apart := false, narrowed := true }
def FnTranslateUptoSaid : Prop := fnTranslateUptoRow.holds Try.pinned (OpenSpec.upto fnTranslateSpec)

/-- 'laws.FnCaptures', WHERE WHAT IT READS IS OF BULK AT MOST 1048576: true; the input reads as it did. -/
def fnCapturesUptoRow : OpenClaim := { program := "ytabbpnkbhapibaa", sum := "4703722cb9f02127ea42d3e4dedf74b4fc3a092d34f45b3c26f3f4ff65b1717b", func := "loop.example/g00873/laws.FnCaptures", spec := "fnCaptures", unfollowed := true, recurses := true, apart := false, narrowed := true }
def FnCapturesUptoSaid : Prop := fnCapturesUptoRow.holds Try.pinned (OpenSpec.upto fnCapturesSpec)

/-- 'laws.FnExactPatternConstant', WHERE WHAT IT READS IS OF BULK AT MOST 1048576: true; the input reads as it did. -/
def fnExactPatternConstantUptoRow : OpenClaim := { program := "ytabbpnkbhapibaa", sum := "4703722cb9f02127ea42d3e4dedf74b4fc3a092d34f45b3c26f3f4ff65b1717b", func := "loop.example/g00873/laws.FnExactPatternConstant", spec := "fnExactPatternConstant", recurses := true, apart := false, narrowed := true }
def FnExactPatternConstantUptoSaid : Prop := fnExactPatternConstantUptoRow.holds Try.pinned (OpenSpec.upto fnExactPatternConstantSpec)

/-- 'laws.FnExactSameGen', WHERE WHAT IT READS IS OF BULK AT MOST 1048576: true; the input reads as it did. -/
def fnExactSameGenUptoRow : OpenClaim := { program := "ytabbpnkbhapibaa", sum := "4703722cb9f02127ea42d3e4dedf74b4fc3a092d34f45b3c26f3f4ff65b1717b", func := "loop.example/g00873/laws.FnExactSameGen", spec := "fnExactSameGen", unfollowed := true, recurses := true, loops := true, apart := false, narrowed := true }
def FnExactSameGenUptoSaid : Prop := fnExactSameGenUptoRow.holds Try.pinned (OpenSpec.upto fnExactSameGenSpec)

/-- 'laws.FnExactFinalOf', WHERE WHAT IT READS IS OF BULK AT MOST 1048576: true; the input reads as it did. -/
def fnExactFinalOfUptoRow : OpenClaim := { program := "ytabbpnkbhapibaa", sum := "4703722cb9f02127ea42d3e4dedf74b4fc3a092d34f45b3c26f3f4ff65b1717b", func := "loop.example/g00873/laws.FnExactFinalOf", spec := "fnExactFinalOf", unfollowed := true, recurses := true, apart := false, narrowed := true }
def FnExactFinalOfUptoSaid : Prop := fnExactFinalOfUptoRow.holds Try.pinned (OpenSpec.upto fnExactFinalOfSpec)

/-- 'laws.FnExactValidConsole', WHERE WHAT IT READS IS OF BULK AT MOST 1048576: true; the input reads as it did. -/
def fnExactValidConsoleUptoRow : OpenClaim := { program := "ytabbpnkbhapibaa", sum := "4703722cb9f02127ea42d3e4dedf74b4fc3a092d34f45b3c26f3f4ff65b1717b", func := "loop.example/g00873/laws.FnExactValidConsole", spec := "fnExactValidConsole", unfollowed := true, recurses := true, apart := false, narrowed := true }
def FnExactValidConsoleUptoSaid : Prop := fnExactValidConsoleUptoRow.holds Try.pinned (OpenSpec.upto fnExactValidConsoleSpec)

/-- 'laws.FnExactSameMemory', WHERE WHAT IT READS IS OF BULK AT MOST 1048576: true; the input reads as it did. -/
def fnExactSameMemoryUptoRow : OpenClaim := { program := "ytabbpnkbhapibaa", sum := "4703722cb9f02127ea42d3e4dedf74b4fc3a092d34f45b3c26f3f4ff65b1717b", func := "loop.example/g00873/laws.FnExactSameMemory", spec := "fnExactSameMemory", unfollowed := true, recurses := true, apart := false, narrowed := true }
def FnExactSameMemoryUptoSaid : Prop := fnExactSameMemoryUptoRow.holds Try.pinned (OpenSpec.upto fnExactSameMemorySpec)

/-- 'laws.FnExactValidInstr', WHERE WHAT IT READS IS OF BULK AT MOST 1048576: true; the input reads as it did. -/
def fnExactValidInstrUptoRow : OpenClaim := { program := "ytabbpnkbhapibaa", sum := "4703722cb9f02127ea42d3e4dedf74b4fc3a092d34f45b3c26f3f4ff65b1717b", func := "loop.example/g00873/laws.FnExactValidInstr", spec := "fnExactValidInstr", inPlace := ["internal/bytealg.IndexByteString", "internal/bytealg.IndexString"], unfollowed := true, recurses := true, named := ["internal/bytealg.MaxLen"], apart := false, narrowed := true }
def FnExactValidInstrUptoSaid : Prop := fnExactValidInstrUptoRow.holds Try.pinned (OpenSpec.upto fnExactValidInstrSpec)

/-- 'laws.FnExactStackEffect', WHERE WHAT IT READS IS OF BULK AT MOST 1048576: true; the input reads as it did. -/
def fnExactStackEffectUptoRow : OpenClaim := { program := "ytabbpnkbhapibaa", sum := "4703722cb9f02127ea42d3e4dedf74b4fc3a092d34f45b3c26f3f4ff65b1717b", func := "loop.example/g00873/laws.FnExactStackEffect", spec := "fnExactStackEffect", inPlace := ["internal/bytealg.IndexByteString", "internal/bytealg.IndexString"], unfollowed := true, recurses := true, named := ["internal/bytealg.MaxLen"], apart := false, narrowed := true }
def FnExactStackEffectUptoSaid : Prop := fnExactStackEffectUptoRow.holds Try.pinned (OpenSpec.upto fnExactStackEffectSpec)

/-- 'laws.FnExactEntryOf', WHERE WHAT IT READS IS OF BULK AT MOST 1048576: true; the input reads as it did. -/
def fnExactEntryOfUptoRow : OpenClaim := { program := "ytabbpnkbhapibaa", sum := "4703722cb9f02127ea42d3e4dedf74b4fc3a092d34f45b3c26f3f4ff65b1717b", func := "loop.example/g00873/laws.FnExactEntryOf", spec := "fnExactEntryOf", unfollowed := true, recurses := true, apart := false, narrowed := true }
def FnExactEntryOfUptoSaid : Prop := fnExactEntryOfUptoRow.holds Try.pinned (OpenSpec.upto fnExactEntryOfSpec)

end Rows
end Go.Proofs.Ytabbpnkbhapibaa
