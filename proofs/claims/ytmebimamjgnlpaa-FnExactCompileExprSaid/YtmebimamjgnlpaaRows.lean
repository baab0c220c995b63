/-
  NARROWER THAN 'FOR EVERY INPUT', by the rows' own cells (each row's printed sentence says how): FnExactCompileExpr: loops · FnExactCandidateStarts: loops.
  DERIVED. THE GIVEN ROWS OF THIS SEAT. 4 by the template 'for every input the law returns true; each argument reads behind the call as it read before'; 0 by the template 'total and deterministic' (their statements: YtmebimamjgnlpaaTotals.lean).
  GIVEN WITH THE SEED: the statements are not yours to turn. If you find one false, say at which input.
  Laid BY PROGRAM, IN A SANDBOX (cutbox-rows.mjs): the forced cells as the released guide's own fill.sh prints them over the translation af41c957d7e7ec40… (all of the seat's roots in one cut). By AI agents, Wed Nov 11 2026. No macro, syntax, notation, axiom, sorry.
-/
import Derived.Test.YtmebimamjgnlpaaChecked
import GoSem.Claim
import GoSem.ClaimJoined
import GoSem.ClaimMapViews
import Derived.JoinedTies
import Derived.KernelRfl
namespace Go.Proofs.Ytmebimamjgnlpaa
/- THE CELL 'sum', in the pinned program and in every row, IS THE sha256 OF THE DUMP (.gsa) THAT YtmebimamjgnlpaaProg.lean LOADS. Nothing in Lean hashes anything: it is a label: what it is worth is what the hold of that sum in a sandbox is worth. -/
noncomputable def Try.pinned : Pinned := { name := "ytmebimamjgnlpaa", sum := "af41c957d7e7ec40f75b2c410202cc3849c6bbb8d867761c76c8bbfda10eb63c", checked := Try.checked }
namespace Rows
def none {H : Type} : Left H := { results := [], args := [] }

/-- 'laws.FnExactParseExpr': WHATEVER THE INPUT: true; the input reads as it did. -/
def fnExactParseExprSpec : ChangeSpec := { name := "fnExactParseExpr", fn := fun _ => fun
  | [d1, d2] => { results := [.lit (.bool true)], args := [d1, d2] }
  | _ => none }
def fnExactParseExprRow : OpenClaim := { program := "ytmebimamjgnlpaa", sum := "af41c957d7e7ec40f75b2c410202cc3849c6bbb8d867761c76c8bbfda10eb63c", func := "loop.example/g00873/laws.FnExactParseExpr", spec := "fnExactParseExpr", inPlace := ["internal/bytealg.IndexByteString", "internal/bytealg.IndexString"], unfollowed := true, recurses := true, named := ["internal/bytealg.MaxLen"], apart := false }
def FnExactParseExprSaid : Prop := fnExactParseExprRow.holds Try.pinned (OpenSpec.ofChange fnExactParseExprSpec)

/-- ITS FALSE NEIGHBOUR: 'it returns false'. Refute it at one input. -/
def fnExactParseExprWrong : ChangeSpec := { name := "fnExactParseExpr", fn := fun _ => fun
  | [d1, d2] => { results := [.lit (.bool false)], args := [d1, d2] }
  | _ => none }
def FnExactParseExprWrongFalsely : Prop := fnExactParseExprRow.holds Try.pinned (OpenSpec.ofChange fnExactParseExprWrong)

/-- 'laws.FnExactParseElement': WHATEVER THE INPUT: true; the input reads as it did. -/
def fnExactParseElementSpec : ChangeSpec := { name := "fnExactParseElement", fn := fun _ => fun
  | [d1, d2] => { results := [.lit (.bool true)], args := [d1, d2] }
  | _ => none }
def fnExactParseElementRow : OpenClaim := { program := "ytmebimamjgnlpaa", sum := "af41c957d7e7ec40f75b2c410202cc3849c6bbb8d867761c76c8bbfda10eb63c", func := "loop.example/g00873/laws.FnExactParseElement", spec := "fnExactParseElement", inPlace := ["internal/bytealg.IndexByteString", "internal/bytealg.IndexString"], unfollowed := true, recurses := true, named := ["internal/bytealg.MaxLen"], apart := false }
def FnExactParseElementSaid : Prop := fnExactParseElementRow.holds Try.pinned (OpenSpec.ofChange fnExactParseElementSpec)

/-- ITS FALSE NEIGHBOUR: 'it returns false'. Refute it at one input. -/
def fnExactParseElementWrong : ChangeSpec := { name := "fnExactParseElement", fn := fun _ => fun
  | [d1, d2] => { results := [.lit (.bool false)], args := [d1, d2] }
  | _ => none }
def FnExactParseElementWrongFalsely : Prop := fnExactParseElementRow.holds Try.pinned (OpenSpec.ofChange fnExactParseElementWrong)

/-- 'laws.FnExactCompileExpr': WHATEVER THE INPUT: true; the input reads as it did. -/
def fnExactCompileExprSpec : ChangeSpec := { name := "fnExactCompileExpr", fn := fun _ => fun
  | [d] => { results := [.lit (.bool true)], args := [d] }
  | _ => none }
def fnExactCompileExprRow : OpenClaim := { program := "ytmebimamjgnlpaa", sum := "af41c957d7e7ec40f75b2c410202cc3849c6bbb8d867761c76c8bbfda10eb63c", func := "loop.example/g00873/laws.FnExactCompileExpr", spec := "fnExactCompileExpr", inPlace := ["internal/bytealg.IndexByteString", "internal/bytealg.IndexString"], unfollowed := true, recurses := true, named := ["internal/bytealg.MaxLen"], loops := true, apart := false }
def FnExactCompileExprSaid : Prop := fnExactCompileExprRow.holds Try.pinned (OpenSpec.ofChange fnExactCompileExprSpec)

/-- ITS FALSE NEIGHBOUR: 'it returns false'. Refute it at one input. -/
def fnExactCompileExprWrong : ChangeSpec := { name := "fnExactCompileExpr", fn := fun _ => fun
  | [d] => { results := [.lit (.bool false)], args := [d] }
  | _ => none }
def FnExactCompileExprWrongFalsely : Prop := fnExactCompileExprRow.holds Try.pinned (OpenSpec.ofChange fnExactCompileExprWrong)

/-- 'laws.FnExactCandidateStarts': WHATEVER THE INPUT: true; the input reads as it did. -/
def fnExactCandidateStartsSpec : ChangeSpec := { name := "fnExactCandidateStarts", fn := fun _ => fun
  | [d1, d2, d3, d4] => { results := [.lit (.bool true)], args := [d1, d2, d3, d4] }
  | _ => none }
def fnExactCandidateStartsRow : OpenClaim := { program := "ytmebimamjgnlpaa", sum := "af41c957d7e7ec40f75b2c410202cc3849c6bbb8d867761c76c8bbfda10eb63c", func := "loop.example/g00873/laws.FnExactCandidateStarts", spec := "fnExactCandidateStarts", unfollowed := true, recurses := true, loops := true, apart := false }
def FnExactCandidateStartsSaid : Prop := fnExactCandidateStartsRow.holds Try.pinned (OpenSpec.ofChange fnExactCandidateStartsSpec)

/-- ITS FALSE NEIGHBOUR: 'it returns false'. Refute it at one input. -/
def fnExactCandidateStartsWrong : ChangeSpec := { name := "fnExactCandidateStarts", fn := fun _ => fun
  | [d1, d2, d3, d4] => { results := [.lit (.bool false)], args := [d1, d2, d3, d4] }
  | _ => none }
def FnExactCandidateStartsWrongFalsely : Prop := fnExactCandidateStartsRow.holds Try.pinned (OpenSpec.ofChange fnExactCandidateStartsWrong)

/- THE SECOND FORM. 'bulk': how many values and letters a reading holds, each counted each time it is reached (what is shared counts as often as it is met; a slice's spare places count too). A statement '..UptoSaid' is the law's where the arguments, and the package variables that the reading takes, are together of bulk at most 1048576: NARROWER than '..Said'. Prove '..Said' where nothing that the law and all that it calls make is longer than what came in: it says more and counts as full. Else prove '..UptoSaid'. A law counts once. -/
mutual
def uptoBulk {H : Type} : DataW H → Nat
  | .lit (.string bytes) => bytes.length + 1
  | .lit _ => 1
  | .nil => 1
  | .ptr d => uptoBulk d + 1
  | .slice elems spare => uptoBulkAll elems + uptoBulkAll spare + 1
  | .agg parts => uptoBulkAll parts + 1
  | .iface _ d => uptoBulk d + 1
  | .map entries => uptoBulkEntries entries + 1
  | .held _ => 1
def uptoBulkAll {H : Type} : List (DataW H) → Nat
  | [] => 0
  | d :: r => uptoBulk d + uptoBulkAll r
def uptoBulkEntries {H : Type} : List (Lit × DataW H) → Nat
  | [] => 0
  | x :: r => uptoBulkEntry x + uptoBulkEntries r
def uptoBulkEntry {H : Type} : Lit × DataW H → Nat
  | (.string bytes, d) => bytes.length + uptoBulk d + 1
  | (_, d) => uptoBulk d + 1
 end
def uptoSmall : (H : Type) → List (DataW H) → Bool := fun _ ds => decide (uptoBulkAll ds ≤ 1048576)
def OpenSpec.upto (s : _root_.Go.ChangeSpec) : _root_.Go.OpenSpec := { _root_.Go.OpenSpec.ofChange s with cond := some uptoSmall }

/-- 'laws.FnExactParseExpr', WHERE WHAT IT READS IS OF BULK AT MOST 1048576: true; the input reads as it did. -/
def fnExactParseExprUptoRow : OpenClaim := { program := "ytmebimamjgnlpaa", sum := "af41c957d7e7ec40f75b2c410202cc3849c6bbb8d867761c76c8bbfda10eb63c", func := "loop.example/g00873/laws.FnExactParseExpr", spec := "fnExactParseExpr", inPlace := ["internal/bytealg.IndexByteString", "internal/bytealg.IndexString"], unfollowed := true, recurses := true, named := ["internal/bytealg.MaxLen"], apart := false, narrowed := true }
def FnExactParseExprUptoSaid : Prop := fnExactParseExprUptoRow.holds Try.pinned (OpenSpec.upto fnExactParseExprSpec)

/-- 'laws.FnExactParseElement', WHERE WHAT IT READS IS OF BULK AT MOST 1048576: true; the input reads as it did. -/
def fnExactParseElementUptoRow : OpenClaim := { program := "ytmebimamjgnlpaa", sum := "af41c957d7e7ec40f75b2c410202cc3849c6bbb8d867761c76c8bbfda10eb63c", func := "loop.example/g00873/laws.FnExactParseElement", spec := "fnExactParseElement", inPlace := ["internal/bytealg.IndexByteString", "internal/bytealg.IndexString"], unfollowed := true, recurses := true, named := ["internal/bytealg.MaxLen"], apart := false, narrowed := true }
def FnExactParseElementUptoSaid : Prop := fnExactParseElementUptoRow.holds Try.pinned (OpenSpec.upto fnExactParseElementSpec)

/-- 'laws.FnExactCompileExpr', WHERE WHAT IT READS IS OF BULK AT MOST 1048576: true; the input reads as it did. -/
def fnExactCompileExprUptoRow : OpenClaim := { program := "ytmebimamjgnlpaa", sum := "af41c957d7e7ec40f75b2c410202cc3849c6bbb8d867761c76c8bbfda10eb63c", func := "loop.example/g00873/laws.FnExactCompileExpr", spec := "fnExactCompileExpr", inPlace := ["internal/bytealg.IndexByteString", "internal/bytealg.IndexString"], unfollowed := true, recurses := true, named := ["internal/bytealg.MaxLen"], loops := true, apart := false, narrowed := true }
def FnExactCompileExprUptoSaid : Prop := fnExactCompileExprUptoRow.holds Try.pinned (OpenSpec.upto fnExactCompileExprSpec)

/-- 'laws.FnExactCandidateStarts', WHERE WHAT IT READS IS OF BULK AT MOST 1048576: true; the input reads as it did. -/
def fnExactCandidateStartsUptoRow : OpenClaim := { program := "ytmebimamjgnlpaa", sum := "af41c957d7e7ec40f75b2c410202cc3849c6bbb8d867761c76c8bbfda10eb63c", func := "loop.example/g00873/laws.FnExactCandidateStarts", spec := "fnExactCandidateStarts", unfollowed := true, recurses := true, loops := true, apart := false, narrowed := true }
def FnExactCandidateStartsUptoSaid : Prop := fnExactCandidateStartsUptoRow.holds Try.pinned (OpenSpec.upto fnExactCandidateStartsSpec)

end Rows
end Go.Proofs.Ytmebimamjgnlpaa
