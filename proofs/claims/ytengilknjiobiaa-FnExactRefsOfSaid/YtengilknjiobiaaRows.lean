/-
  No cell of these rows narrows 'for every input' (looked for: loops, veiled, ifaces, maps, wideKeys, modest, calm, conditions, laid).
  DERIVED. THE GIVEN ROWS OF THIS SEAT. 6 by the template 'for every input the law returns true; each argument reads behind the call as it read before'; 0 by the template 'total and deterministic' (their statements: YtengilknjiobiaaTotals.lean).
  GIVEN WITH THE SEED: the statements are not yours to turn. If you find one false, say at which input.
  Laid BY PROGRAM, IN A SANDBOX (cutbox-rows.mjs): the forced cells as the released guide's own fill.sh prints them over the translation e0982cb08f387141… (all of the seat's roots in one cut). By AI agents, Wed Nov 11 2026. No macro, syntax, notation, axiom, sorry.
-/
import Derived.Test.YtengilknjiobiaaChecked
import GoSem.Claim
import GoSem.ClaimJoined
import GoSem.ClaimMapViews
import Derived.JoinedTies
import Derived.KernelRfl
namespace Go.Proofs.Ytengilknjiobiaa
/- THE CELL 'sum', in the pinned program and in every row, IS THE sha256 OF THE DUMP (.gsa) THAT YtengilknjiobiaaProg.lean LOADS. Nothing in Lean hashes anything: it is a label: what it is worth is what the hold of that sum in a sandbox is worth. -/
noncomputable def Try.pinned : Pinned := { name := "ytengilknjiobiaa", sum := "e0982cb08f3871412371ce99a579e4774584d0d9dfbb0b65efed5e2d3adb28b7", checked := Try.checked }
namespace Rows
def none {H : Type} : Left H := { results := [], args := [] }

/-- 'laws.FnExactGetField': WHATEVER THE INPUT: true; the input reads as it did. -/
def fnExactGetFieldSpec : ChangeSpec := { name := "fnExactGetField", fn := fun _ => fun
  | [d1, d2, d3] => { results := [.lit (.bool true)], args := [d1, d2, d3] }
  | _ => none }
def fnExactGetFieldRow : OpenClaim := { program := "ytengilknjiobiaa", sum := "e0982cb08f3871412371ce99a579e4774584d0d9dfbb0b65efed5e2d3adb28b7", func := "loop.example/g00873/laws.FnExactGetField", spec := "fnExactGetField", unfollowed := true, recurses := true, apart := false }
def FnExactGetFieldSaid : Prop := fnExactGetFieldRow.holds Try.pinned (OpenSpec.ofChange fnExactGetFieldSpec)

/-- ITS FALSE NEIGHBOUR: 'it returns false'. Refute it at one input. -/
def fnExactGetFieldWrong : ChangeSpec := { name := "fnExactGetField", fn := fun _ => fun
  | [d1, d2, d3] => { results := [.lit (.bool false)], args := [d1, d2, d3] }
  | _ => none }
def FnExactGetFieldWrongFalsely : Prop := fnExactGetFieldRow.holds Try.pinned (OpenSpec.ofChange fnExactGetFieldWrong)

/-- 'laws.FnExactGetElement': WHATEVER THE INPUT: true; the input reads as it did. -/
def fnExactGetElementSpec : ChangeSpec := { name := "fnExactGetElement", fn := fun _ => fun
  | [d1, d2, d3] => { results := [.lit (.bool true)], args := [d1, d2, d3] }
  | _ => none }
def fnExactGetElementRow : OpenClaim := { program := "ytengilknjiobiaa", sum := "e0982cb08f3871412371ce99a579e4774584d0d9dfbb0b65efed5e2d3adb28b7", func := "loop.example/g00873/laws.FnExactGetElement", spec := "fnExactGetElement", unfollowed := true, recurses := true, apart := false }
def FnExactGetElementSaid : Prop := fnExactGetElementRow.holds Try.pinned (OpenSpec.ofChange fnExactGetElementSpec)

/-- ITS FALSE NEIGHBOUR: 'it returns false'. Refute it at one input. -/
def fnExactGetElementWrong : ChangeSpec := { name := "fnExactGetElement", fn := fun _ => fun
  | [d1, d2, d3] => { results := [.lit (.bool false)], args := [d1, d2, d3] }
  | _ => none }
def FnExactGetElementWrongFalsely : Prop := fnExactGetElementRow.holds Try.pinned (OpenSpec.ofChange fnExactGetElementWrong)

/-- 'laws.FnExactPairsOf': WHATEVER THE INPUT: true; the input reads as it did. -/
def fnExactPairsOfSpec : ChangeSpec := { name := "fnExactPairsOf", fn := fun _ => fun
  | [d1, d2] => { results := [.lit (.bool true)], args := [d1, d2] }
  | _ => none }
def fnExactPairsOfRow : OpenClaim := { program := "ytengilknjiobiaa", sum := "e0982cb08f3871412371ce99a579e4774584d0d9dfbb0b65efed5e2d3adb28b7", func := "loop.example/g00873/laws.FnExactPairsOf", spec := "fnExactPairsOf", unfollowed := true, recurses := true, apart := false }
def FnExactPairsOfSaid : Prop := fnExactPairsOfRow.holds Try.pinned (OpenSpec.ofChange fnExactPairsOfSpec)

/-- ITS FALSE NEIGHBOUR: 'it returns false'. Refute it at one input. -/
def fnExactPairsOfWrong : ChangeSpec := { name := "fnExactPairsOf", fn := fun _ => fun
  | [d1, d2] => { results := [.lit (.bool false)], args := [d1, d2] }
  | _ => none }
def FnExactPairsOfWrongFalsely : Prop := fnExactPairsOfRow.holds Try.pinned (OpenSpec.ofChange fnExactPairsOfWrong)

/-- 'laws.FnExactRefsOf': WHATEVER THE INPUT: true; the input reads as it did. -/
def fnExactRefsOfSpec : ChangeSpec := { name := "fnExactRefsOf", fn := fun _ => fun
  | [d] => { results := [.lit (.bool true)], args := [d] }
  | _ => none }
def fnExactRefsOfRow : OpenClaim := { program := "ytengilknjiobiaa", sum := "e0982cb08f3871412371ce99a579e4774584d0d9dfbb0b65efed5e2d3adb28b7", func := "loop.example/g00873/laws.FnExactRefsOf", spec := "fnExactRefsOf", unfollowed := true, recurses := true, apart := false }
def FnExactRefsOfSaid : Prop := fnExactRefsOfRow.holds Try.pinned (OpenSpec.ofChange fnExactRefsOfSpec)

/-- ITS FALSE NEIGHBOUR: 'it returns false'. Refute it at one input. -/
def fnExactRefsOfWrong : ChangeSpec := { name := "fnExactRefsOf", fn := fun _ => fun
  | [d] => { results := [.lit (.bool false)], args := [d] }
  | _ => none }
def FnExactRefsOfWrongFalsely : Prop := fnExactRefsOfRow.holds Try.pinned (OpenSpec.ofChange fnExactRefsOfWrong)

/-- 'laws.FnExactNewIdOf': WHATEVER THE INPUT: true; the input reads as it did. -/
def fnExactNewIdOfSpec : ChangeSpec := { name := "fnExactNewIdOf", fn := fun _ => fun
  | [d1, d2, d3] => { results := [.lit (.bool true)], args := [d1, d2, d3] }
  | _ => none }
def fnExactNewIdOfRow : OpenClaim := { program := "ytengilknjiobiaa", sum := "e0982cb08f3871412371ce99a579e4774584d0d9dfbb0b65efed5e2d3adb28b7", func := "loop.example/g00873/laws.FnExactNewIdOf", spec := "fnExactNewIdOf", unfollowed := true, recurses := true, apart := false }
def FnExactNewIdOfSaid : Prop := fnExactNewIdOfRow.holds Try.pinned (OpenSpec.ofChange fnExactNewIdOfSpec)

/-- ITS FALSE NEIGHBOUR: 'it returns false'. Refute it at one input. -/
def fnExactNewIdOfWrong : ChangeSpec := { name := "fnExactNewIdOf", fn := fun _ => fun
  | [d1, d2, d3] => { results := [.lit (.bool false)], args := [d1, d2, d3] }
  | _ => none }
def FnExactNewIdOfWrongFalsely : Prop := fnExactNewIdOfRow.holds Try.pinned (OpenSpec.ofChange fnExactNewIdOfWrong)

/-- 'laws.FnExactReachable': WHATEVER THE INPUT: true; the input reads as it did. -/
def fnExactReachableSpec : ChangeSpec := { name := "fnExactReachable", fn := fun _ => fun
  | [d1, d2] => { results := [.lit (.bool true)], args := [d1, d2] }
  | _ => none }
def fnExactReachableRow : OpenClaim := { program := "ytengilknjiobiaa", sum := "e0982cb08f3871412371ce99a579e4774584d0d9dfbb0b65efed5e2d3adb28b7", func := "loop.example/g00873/laws.FnExactReachable", spec := "fnExactReachable", unfollowed := true, recurses := true, apart := false }
def FnExactReachableSaid : Prop := fnExactReachableRow.holds Try.pinned (OpenSpec.ofChange fnExactReachableSpec)

/-- ITS FALSE NEIGHBOUR: 'it returns false'. Refute it at one input. -/
def fnExactReachableWrong : ChangeSpec := { name := "fnExactReachable", fn := fun _ => fun
  | [d1, d2] => { results := [.lit (.bool false)], args := [d1, d2] }
  | _ => none }
def FnExactReachableWrongFalsely : Prop := fnExactReachableRow.holds Try.pinned (OpenSpec.ofChange fnExactReachableWrong)

/- THE SECOND FORM. 'bulk': how many values and letters a reading holds, each counted each time it is reached (what is shared counts as often as it is met; a slice's spare places count too). A statement '..UptoSaid' is the law's where the arguments, and the package variables that the reading takes, are together of bulk at most 1048576: NARROWER than '..Said'. Prove '..Said' where nothing that the law and all that it calls make is longer than what came in: it says more and counts as full. Else prove '..UptoSaid'. A law counts once. -/
mutual
def uptoBulk {H : Type} : DataW H → Nat
  | .lit (.string bytes) => bytes.length + 1
  | .lit _ => 1
  | .nil => 1
  | .ptr d => uptoBulk d + 1
  | .slice elems spare => uptoBulkAll elems + uptoBulkAll spare + 1
  | .agg parts => uptoBulkAll parts + 1
  | .iface _ d => uptoBulk d + 1
  | .map entries => uptoBulkEntries entries + 1
  | .held _ => 1
def uptoBulkAll {H : Type} : List (DataW H) → Nat
  | [] => 0
  | d :: r => uptoBulk d + uptoBulkAll r
def uptoBulkEntries {H : Type} : List (Lit × DataW H) → Nat
  | [] => 0
  | x :: r => uptoBulkEntry x + uptoBulkEntries r
def uptoBulkEntry {H : Type} : Lit × DataW H → Nat
  | (.string bytes, d) => bytes.length + uptoBulk d + 1
  | (_, d) => uptoBulk d + 1
 end
def uptoSmall : (H : Type) → List (DataW H) → Bool := fun _ ds => decide (uptoBulkAll ds ≤ 1048576)
def OpenSpec.upto (s : _root_.Go.ChangeSpec) : _root_.Go.OpenSpec := { _root_.Go.OpenSpec.ofChange s with cond := some uptoSmall }

/-- 'laws.FnExactGetField', WHERE WHAT IT READS IS OF BULK AT MOST 1048576: true; the input reads as it did. -/
def fnExactGetFieldUptoRow : OpenClaim := { program := "ytengilknjiobiaa", sum := "e0982cb08f3871412371ce99a579e4774584d0d9dfbb0b65efed5e2d3adb28b7", func := "loop.example/g00873/laws.FnExactGetField", spec := "fnExactGetField", unfollowed := true, recurses := true, apart := false, narrowed := true }
def FnExactGetFieldUptoSaid : Prop := fnExactGetFieldUptoRow.holds Try.pinned (OpenSpec.upto fnExactGetFieldSpec)

/-- 'laws.FnExactGetElement', WHERE WHAT IT READS IS OF BULK AT MOST 1048576: true; the input reads as it did. -/
def fnExactGetElementUptoRow : OpenClaim := { program := "ytengilknjiobiaa", sum := "e0982cb08f3871412371ce99a579e4774584d0d9dfbb0b65efed5e2d3adb28b7", func := "loop.example/g00873/laws.FnExactGetElement", spec := "fnExactGetElement", unfollowed := true, recurses := true, apart := false, narrowed := true }
def FnExactGetElementUptoSaid : Prop := fnExactGetElementUptoRow.holds Try.pinned (OpenSpec.upto fnExactGetElementSpec)

/-- 'laws.FnExactPairsOf', WHERE WHAT IT READS IS OF BULK AT MOST 1048576: true; the input reads as it did. -/
def fnExactPairsOfUptoRow : OpenClaim := { program := "ytengilknjiobiaa", sum := "e0982cb08f3871412371ce99a579e4774584d0d9dfbb0b65efed5e2d3adb28b7", func := "loop.example/g00873/laws.FnExactPairsOf", spec := "fnExactPairsOf", unfollowed := true, recurses := true, apart := false, narrowed := true }
def FnExactPairsOfUptoSaid : Prop := fnExactPairsOfUptoRow.holds Try.pinned (OpenSpec.upto fnExactPairsOfSpec)

/-- 'laws.FnExactRefsOf', WHERE WHAT IT READS IS OF BULK AT MOST 1048576: true; the input reads as it did. -/
def fnExactRefsOfUptoRow : OpenClaim := { program := "ytengilknjiobiaa", sum := "e0982cb08f3871412371ce99a579e4774584d0d9dfbb0b65efed5e2d3adb28b7", func := "loop.example/g00873/laws.FnExactRefsOf", spec := "fnExactRefsOf", unfollowed := true, recurses := true, apart := false, narrowed := true }
def FnExactRefsOfUptoSaid : Prop := fnExactRefsOfUptoRow.holds Try.pinned (OpenSpec.upto fnExactRefsOfSpec)

/-- 'laws.FnExactNewIdOf', WHERE WHAT IT READS IS OF BULK AT MOST 1048576: true; the input reads as it did. -/
def fnExactNewIdOfUptoRow : OpenClaim := { program := "ytengilknjiobiaa", sum := "e0982cb08f3871412371ce99a579e4774584d0d9dfbb0b65efed5e2d3adb28b7", func := "loop.example/g00873/laws.FnExactNewIdOf", spec := "fnExactNewIdOf", unfollowed := true, recurses := true, apart := false, narrowed := true }
def FnExactNewIdOfUptoSaid : Prop := fnExactNewIdOfUptoRow.holds Try.pinned (OpenSpec.upto fnExactNewIdOfSpec)

/-- 'laws.FnExactReachable', WHERE WHAT IT READS IS OF BULK AT MOST 1048576: true; the input reads as it did. -/
def fnExactReachableUptoRow : OpenClaim := { program := "ytengilknjiobiaa", sum := "e0982cb08f3871412371ce99a579e4774584d0d9dfbb0b65efed5e2d3adb28b7", func := "loop.example/g00873/laws.FnExactReachable", spec := "fnExactReachable", unfollowed := true, recurses := true, apart := false, narrowed := true }
def FnExactReachableUptoSaid : Prop := fnExactReachableUptoRow.holds Try.pinned (OpenSpec.upto fnExactReachableSpec)

end Rows
end Go.Proofs.Ytengilknjiobiaa
