/-
  No cell of these rows narrows 'for every input' (looked for: loops, veiled, ifaces, maps, wideKeys, modest, calm, conditions, laid).
  DERIVED. THE GIVEN ROWS OF THIS SEAT. 5 by the template 'for every input the law returns true; each argument reads behind the call as it read before'; 0 by the template 'total and deterministic' (their statements: YtpdljgieaaicpaaTotals.lean).
  GIVEN WITH THE SEED: the statements are not yours to turn. If you find one false, say at which input.
  Laid BY PROGRAM, IN A SANDBOX (cutbox-rows.mjs): the forced cells as the released guide's own fill.sh prints them over the translation a693066414050165… (all of the seat's roots in one cut). By AI agents, Wed Nov 11 2026. No macro, syntax, notation, axiom, sorry.
-/
import Derived.Test.YtpdljgieaaicpaaChecked
import GoSem.Claim
import GoSem.ClaimJoined
import GoSem.ClaimMapViews
import Derived.JoinedTies
import Derived.KernelRfl
namespace Go.Proofs.Ytpdljgieaaicpaa
/- THE CELL 'sum', in the pinned program and in every row, IS THE sha256 OF THE DUMP (.gsa) THAT YtpdljgieaaicpaaProg.lean LOADS. Nothing in Lean hashes anything: it is a label: what it is worth is what the hold of that sum in a sandbox is worth. -/
noncomputable def Try.pinned : Pinned := { name := "ytpdljgieaaicpaa", sum := "a69306641405016503c23c87b575c6a505763df88b5225540409ceb9d007f640", checked := Try.checked }
namespace Rows
def none {H : Type} : Left H := { results := [], args := [] }

/-- 'laws.FnExactGarbage': WHATEVER THE INPUT: true; the input reads as it did. -/
def fnExactGarbageSpec : ChangeSpec := { name := "fnExactGarbage", fn := fun _ => fun
  | [d1, d2] => { results := [.lit (.bool true)], args := [d1, d2] }
  | _ => none }
def fnExactGarbageRow : OpenClaim := { program := "ytpdljgieaaicpaa", sum := "a69306641405016503c23c87b575c6a505763df88b5225540409ceb9d007f640", func := "loop.example/g00873/laws.FnExactGarbage", spec := "fnExactGarbage", unfollowed := true, recurses := true, apart := false }
def FnExactGarbageSaid : Prop := fnExactGarbageRow.holds Try.pinned (OpenSpec.ofChange fnExactGarbageSpec)

/-- ITS FALSE NEIGHBOUR: 'it returns false'. Refute it at one input. -/
def fnExactGarbageWrong : ChangeSpec := { name := "fnExactGarbage", fn := fun _ => fun
  | [d1, d2] => { results := [.lit (.bool false)], args := [d1, d2] }
  | _ => none }
def FnExactGarbageWrongFalsely : Prop := fnExactGarbageRow.holds Try.pinned (OpenSpec.ofChange fnExactGarbageWrong)

/-- 'laws.FnExactLiveSize': WHATEVER THE INPUT: true; the input reads as it did. -/
def fnExactLiveSizeSpec : ChangeSpec := { name := "fnExactLiveSize", fn := fun _ => fun
  | [d1, d2] => { results := [.lit (.bool true)], args := [d1, d2] }
  | _ => none }
def fnExactLiveSizeRow : OpenClaim := { program := "ytpdljgieaaicpaa", sum := "a69306641405016503c23c87b575c6a505763df88b5225540409ceb9d007f640", func := "loop.example/g00873/laws.FnExactLiveSize", spec := "fnExactLiveSize", unfollowed := true, recurses := true, apart := false }
def FnExactLiveSizeSaid : Prop := fnExactLiveSizeRow.holds Try.pinned (OpenSpec.ofChange fnExactLiveSizeSpec)

/-- ITS FALSE NEIGHBOUR: 'it returns false'. Refute it at one input. -/
def fnExactLiveSizeWrong : ChangeSpec := { name := "fnExactLiveSize", fn := fun _ => fun
  | [d1, d2] => { results := [.lit (.bool false)], args := [d1, d2] }
  | _ => none }
def FnExactLiveSizeWrongFalsely : Prop := fnExactLiveSizeRow.holds Try.pinned (OpenSpec.ofChange fnExactLiveSizeWrong)

/-- 'laws.FnCollectKeeps': WHATEVER THE INPUT: true; the input reads as it did. -/
def fnCollectKeepsSpec : ChangeSpec := { name := "fnCollectKeeps", fn := fun _ => fun
  | [d] => { results := [.lit (.bool true)], args := [d] }
  | _ => none }
def fnCollectKeepsRow : OpenClaim := { program := "ytpdljgieaaicpaa", sum := "a69306641405016503c23c87b575c6a505763df88b5225540409ceb9d007f640", func := "loop.example/g00873/laws.FnCollectKeeps", spec := "fnCollectKeeps", unfollowed := true, recurses := true, apart := false }
def FnCollectKeepsSaid : Prop := fnCollectKeepsRow.holds Try.pinned (OpenSpec.ofChange fnCollectKeepsSpec)

/-- ITS FALSE NEIGHBOUR: 'it returns false'. Refute it at one input. -/
def fnCollectKeepsWrong : ChangeSpec := { name := "fnCollectKeeps", fn := fun _ => fun
  | [d] => { results := [.lit (.bool false)], args := [d] }
  | _ => none }
def FnCollectKeepsWrongFalsely : Prop := fnCollectKeepsRow.holds Try.pinned (OpenSpec.ofChange fnCollectKeepsWrong)

/-- 'laws.FnExactSameShape': WHATEVER THE INPUT: true; the input reads as it did. -/
def fnExactSameShapeSpec : ChangeSpec := { name := "fnExactSameShape", fn := fun _ => fun
  | [d1, d2, d3, d4] => { results := [.lit (.bool true)], args := [d1, d2, d3, d4] }
  | _ => none }
def fnExactSameShapeRow : OpenClaim := { program := "ytpdljgieaaicpaa", sum := "a69306641405016503c23c87b575c6a505763df88b5225540409ceb9d007f640", func := "loop.example/g00873/laws.FnExactSameShape", spec := "fnExactSameShape", unfollowed := true, recurses := true, apart := false }
def FnExactSameShapeSaid : Prop := fnExactSameShapeRow.holds Try.pinned (OpenSpec.ofChange fnExactSameShapeSpec)

/-- ITS FALSE NEIGHBOUR: 'it returns false'. Refute it at one input. -/
def fnExactSameShapeWrong : ChangeSpec := { name := "fnExactSameShape", fn := fun _ => fun
  | [d1, d2, d3, d4] => { results := [.lit (.bool false)], args := [d1, d2, d3, d4] }
  | _ => none }
def FnExactSameShapeWrongFalsely : Prop := fnExactSameShapeRow.holds Try.pinned (OpenSpec.ofChange fnExactSameShapeWrong)

/-- 'laws.FnExactCollect': WHATEVER THE INPUT: true; the input reads as it did. -/
def fnExactCollectSpec : ChangeSpec := { name := "fnExactCollect", fn := fun _ => fun
  | [d1, d2] => { results := [.lit (.bool true)], args := [d1, d2] }
  | _ => none }
def fnExactCollectRow : OpenClaim := { program := "ytpdljgieaaicpaa", sum := "a69306641405016503c23c87b575c6a505763df88b5225540409ceb9d007f640", func := "loop.example/g00873/laws.FnExactCollect", spec := "fnExactCollect", unfollowed := true, recurses := true, apart := false }
def FnExactCollectSaid : Prop := fnExactCollectRow.holds Try.pinned (OpenSpec.ofChange fnExactCollectSpec)

/-- ITS FALSE NEIGHBOUR: 'it returns false'. Refute it at one input. -/
def fnExactCollectWrong : ChangeSpec := { name := "fnExactCollect", fn := fun _ => fun
  | [d1, d2] => { results := [.lit (.bool false)], args := [d1, d2] }
  | _ => none }
def FnExactCollectWrongFalsely : Prop := fnExactCollectRow.holds Try.pinned (OpenSpec.ofChange fnExactCollectWrong)

/- THE SECOND FORM. 'bulk': how many values and letters a reading holds, each counted each time it is reached (what is shared counts as often as it is met; a slice's spare places count too). A statement '..UptoSaid' is the law's where the arguments, and the package variables that the reading takes, are together of bulk at most 1048576: NARROWER than '..Said'. Prove '..Said' where nothing that the law and all that it calls make is longer than what came in: it says more and counts as full. Else prove '..UptoSaid'. A law counts once. -/
mutual
def uptoBulk {H : Type} : DataW H → Nat
  | .lit (.string bytes) => bytes.length + 1
  | .lit _ => 1
  | .nil => 1
  | .ptr d => uptoBulk d + 1
  | .slice elems spare => uptoBulkAll elems + uptoBulkAll spare + 1
  | .agg parts => uptoBulkAll parts + 1
  | .iface _ d => uptoBulk d + 1
  | .map entries => uptoBulkEntries entries + 1
  | .held _ => 1
def uptoBulkAll {H : Type} : List (DataW H) → Nat
  | [] => 0
  | d :: r => uptoBulk d + uptoBulkAll r
def uptoBulkEntries {H : Type} : List (Lit × DataW H) → Nat
  | [] => 0
  | x :: r => uptoBulkEntry x + uptoBulkEntries r
def uptoBulkEntry {H : Type} : Lit × DataW H → Nat
  | (.string bytes, d) => bytes.length + uptoBulk d + 1
  | (_, d) => uptoBulk d + 1
 end
def uptoSmall : (H : Type) → List (DataW H) → Bool := fun _ ds => decide (uptoBulkAll ds ≤ 1048576)
def OpenSpec.upto (s : _root_.Go.ChangeSpec) : _root_.Go.OpenSpec := { _root_.Go.OpenSpec.ofChange s with cond := some uptoSmall }

/-- 'laws.FnExactGarbage', WHERE WHAT IT READS IS OF BULK AT MOST 1048576: true; the input reads as it did. -/
def fnExactGarbageUptoRow : OpenClaim := { program := "ytpdljgieaaicpaa", sum := "a69306641405016503c23c87b575c6a505763df88b5225540409ceb9d007f640", func := "loop.example/g00873/laws.FnExactGarbage", spec := "fnExactGarbage", unfollowed := true, recurses := true, apart := false, narrowed := true }
def FnExactGarbageUptoSaid : Prop := fnExactGarbageUptoRow.holds Try.pinned (OpenSpec.upto fnExactGarbageSpec)

/-- 'laws.FnExactLiveSize', WHERE WHAT IT READS IS OF BULK AT MOST 1048576: true; the input reads as it did. -/
def fnExactLiveSizeUptoRow : OpenClaim := { program := "ytpdljgieaaicpaa", sum := "a69306641405016503c23c87b575c6a505763df88b5225540409ceb9d007f640", func := "loop.example/g00873/laws.FnExactLiveSize", spec := "fnExactLiveSize", unfollowed := true, recurses := true, apart := false, narrowed := true }
def FnExactLiveSizeUptoSaid : Prop := fnExactLiveSizeUptoRow.holds Try.pinned (OpenSpec.upto fnExactLiveSizeSpec)

/-- 'laws.FnCollectKeeps', WHERE WHAT IT READS IS OF BULK AT MOST 1048576: true; the input reads as it did. -/
def fnCollectKeepsUptoRow : OpenClaim := { program := "ytpdljgieaaicpaa", sum := "a69306641405016503c23c87b575c6a505763df88b5225540409ceb9d007f640", func := "loop.example/g00873/laws.FnCollectKeeps", spec := "fnCollectKeeps", unfollowed := true, recurses := true, apart := false, narrowed := true }
def FnCollectKeepsUptoSaid : Prop := fnCollectKeepsUptoRow.holds Try.pinned (OpenSpec.upto fnCollectKeepsSpec)

/-- 'laws.FnExactSameShape', WHERE WHAT IT READS IS OF BULK AT MOST 1048576: true; the input reads as it did. -/
def fnExactSameShapeUptoRow : OpenClaim := { program := "ytpdljgieaaicpaa", sum := "a69306641405016503c23c87b575c6a505763df88b5225540409ceb9d007f640", func := "loop.example/g00873/laws.FnExactSameShape", spec := "fnExactSameShape", unfollowed := true, recurses := true, apart := false, narrowed := true }
def FnExactSameShapeUptoSaid : Prop := fnExactSameShapeUptoRow.holds Try.pinned (OpenSpec.upto fnExactSameShapeSpec)

/-- 'laws.FnExactCollect', WHERE WHAT IT READS IS OF BULK AT MOST 1048576: true; the input reads as it did. -/
def fnExactCollectUptoRow : OpenClaim := { program := "ytpdljgieaaicpaa", sum := "a69306641405016503c23c87b575c6a505763df88b5225540409ceb9d007f640", func := "loop.example/g00873/laws.FnExactCollect", spec := "fnExactCollect", unfollowed := true, recurses := true, apart := false, narrowed := true }
def FnExactCollectUptoSaid : Prop := fnExactCollectUptoRow.holds Try.pinned (OpenSpec.upto fnExactCollectSpec)

end Rows
end Go.Proofs.Ytpdljgieaaicpaa
