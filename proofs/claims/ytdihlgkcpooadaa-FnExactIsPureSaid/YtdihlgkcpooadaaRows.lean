/-
  NARROWER THAN 'FOR EVERY INPUT', by the rows' own cells (each row's printed sentence says how): FnExactValidEnv: loops · FnExactIsPure: loops · FnExactLengthsOf: loops · FnExactFirstBytes: loops.
  DERIVED. THE GIVEN ROWS OF THIS SEAT. 4 by the template 'for every input the law returns true; each argument reads behind the call as it read before'; 0 by the template 'total and deterministic' (their statements: YtdihlgkcpooadaaTotals.lean).
  GIVEN WITH THE SEED: the statements are not yours to turn. If you find one false, say at which input.
  Laid BY PROGRAM, IN A SANDBOX (cutbox-rows.mjs): the forced cells as the released guide's own fill.sh prints them over the translation b53a2116c02667ab… (all of the seat's roots in one cut). By AI agents, Wed Nov 11 2026. No macro, syntax, notation, axiom, sorry.
-/
import Derived.Test.YtdihlgkcpooadaaChecked
import GoSem.Claim
import GoSem.ClaimJoined
import GoSem.ClaimMapViews
import Derived.JoinedTies
import Derived.KernelRfl
namespace Go.Proofs.Ytdihlgkcpooadaa
/- THE CELL 'sum', in the pinned program and in every row, IS THE sha256 OF THE DUMP (.gsa) THAT YtdihlgkcpooadaaProg.lean LOADS. Nothing in Lean hashes anything: it is a label: what it is worth is what the hold of that sum in a sandbox is worth. -/
noncomputable def Try.pinned : Pinned := { name := "ytdihlgkcpooadaa", sum := "b53a2116c02667ab1c1cbabf63033399351f82fe6b308249151f55eaa9370792", checked := Try.checked }
namespace Rows
def none {H : Type} : Left H := { results := [], args := [] }

/-- 'laws.FnExactValidEnv': WHATEVER THE INPUT: true; the input reads as it did. -/
def fnExactValidEnvSpec : ChangeSpec := { name := "fnExactValidEnv", fn := fun _ => fun
  | [d] => { results := [.lit (.bool true)], args := [d] }
  | _ => none }
def fnExactValidEnvRow : OpenClaim := { program := "ytdihlgkcpooadaa", sum := "b53a2116c02667ab1c1cbabf63033399351f82fe6b308249151f55eaa9370792", func := "loop.example/g00873/laws.FnExactValidEnv", spec := "fnExactValidEnv", unfollowed := true, recurses := true, loops := true, apart := false }
def FnExactValidEnvSaid : Prop := fnExactValidEnvRow.holds Try.pinned (OpenSpec.ofChange fnExactValidEnvSpec)

/-- ITS FALSE NEIGHBOUR: 'it returns false'. Refute it at one input. -/
def fnExactValidEnvWrong : ChangeSpec := { name := "fnExactValidEnv", fn := fun _ => fun
  | [d] => { results := [.lit (.bool false)], args := [d] }
  | _ => none }
def FnExactValidEnvWrongFalsely : Prop := fnExactValidEnvRow.holds Try.pinned (OpenSpec.ofChange fnExactValidEnvWrong)

/-- 'laws.FnExactIsPure': WHATEVER THE INPUT: true; the input reads as it did. -/
def fnExactIsPureSpec : ChangeSpec := { name := "fnExactIsPure", fn := fun _ => fun
  | [d1, d2] => { results := [.lit (.bool true)], args := [d1, d2] }
  | _ => none }
def fnExactIsPureRow : OpenClaim := { program := "ytdihlgkcpooadaa", sum := "b53a2116c02667ab1c1cbabf63033399351f82fe6b308249151f55eaa9370792", func := "loop.example/g00873/laws.FnExactIsPure", spec := "fnExactIsPure", unfollowed := true, recurses := true, loops := true, apart := false }
def FnExactIsPureSaid : Prop := fnExactIsPureRow.holds Try.pinned (OpenSpec.ofChange fnExactIsPureSpec)

/-- ITS FALSE NEIGHBOUR: 'it returns false'. Refute it at one input. -/
def fnExactIsPureWrong : ChangeSpec := { name := "fnExactIsPure", fn := fun _ => fun
  | [d1, d2] => { results := [.lit (.bool false)], args := [d1, d2] }
  | _ => none }
def FnExactIsPureWrongFalsely : Prop := fnExactIsPureRow.holds Try.pinned (OpenSpec.ofChange fnExactIsPureWrong)

/-- 'laws.FnExactLengthsOf': WHATEVER THE INPUT: true; the input reads as it did. -/
def fnExactLengthsOfSpec : ChangeSpec := { name := "fnExactLengthsOf", fn := fun _ => fun
  | [d1, d2] => { results := [.lit (.bool true)], args := [d1, d2] }
  | _ => none }
def fnExactLengthsOfRow : OpenClaim := { program := "ytdihlgkcpooadaa", sum := "b53a2116c02667ab1c1cbabf63033399351f82fe6b308249151f55eaa9370792", func := "loop.example/g00873/laws.FnExactLengthsOf", spec := "fnExactLengthsOf", unfollowed := true, recurses := true, loops := true, apart := false }
def FnExactLengthsOfSaid : Prop := fnExactLengthsOfRow.holds Try.pinned (OpenSpec.ofChange fnExactLengthsOfSpec)

/-- ITS FALSE NEIGHBOUR: 'it returns false'. Refute it at one input. -/
def fnExactLengthsOfWrong : ChangeSpec := { name := "fnExactLengthsOf", fn := fun _ => fun
  | [d1, d2] => { results := [.lit (.bool false)], args := [d1, d2] }
  | _ => none }
def FnExactLengthsOfWrongFalsely : Prop := fnExactLengthsOfRow.holds Try.pinned (OpenSpec.ofChange fnExactLengthsOfWrong)

/-- 'laws.FnExactFirstBytes': WHATEVER THE INPUT: true; the input reads as it did. -/
def fnExactFirstBytesSpec : ChangeSpec := { name := "fnExactFirstBytes", fn := fun _ => fun
  | [d1, d2] => { results := [.lit (.bool true)], args := [d1, d2] }
  | _ => none }
def fnExactFirstBytesRow : OpenClaim := { program := "ytdihlgkcpooadaa", sum := "b53a2116c02667ab1c1cbabf63033399351f82fe6b308249151f55eaa9370792", func := "loop.example/g00873/laws.FnExactFirstBytes", spec := "fnExactFirstBytes", unfollowed := true, recurses := true, loops := true, apart := false }
def FnExactFirstBytesSaid : Prop := fnExactFirstBytesRow.holds Try.pinned (OpenSpec.ofChange fnExactFirstBytesSpec)

/-- ITS FALSE NEIGHBOUR: 'it returns false'. Refute it at one input. -/
def fnExactFirstBytesWrong : ChangeSpec := { name := "fnExactFirstBytes", fn := fun _ => fun
  | [d1, d2] => { results := [.lit (.bool false)], args := [d1, d2] }
  | _ => none }
def FnExactFirstBytesWrongFalsely : Prop := fnExactFirstBytesRow.holds Try.pinned (OpenSpec.ofChange fnExactFirstBytesWrong)

/- THE SECOND FORM. 'bulk': how many values and letters a reading holds, each counted each time it is reached (what is shared counts as often as it is met; a slice's spare places count too). A statement '..UptoSaid' is the law's where the arguments, and the package variables that the reading takes, are together of bulk at most 1048576: NARROWER than '..Said'. Prove '..Said' where nothing that the law and all that it calls make is longer than what came in: it says more and counts as full. Else prove '..UptoSaid'. A law counts once. -/
mutual
def uptoBulk {H : Type} : DataW H → Nat
  | .lit (.string bytes) => bytes.length + 1
  | .lit _ => 1
  | .nil => 1
  | .ptr d => uptoBulk d + 1
  | .slice elems spare => uptoBulkAll elems + uptoBulkAll spare + 1
  | .agg parts => uptoBulkAll parts + 1
  | .iface _ d => uptoBulk d + 1
  | .map entries => uptoBulkEntries entries + 1
  | .held _ => 1
def uptoBulkAll {H : Type} : List (DataW H) → Nat
  | [] => 0
  | d :: r => uptoBulk d + uptoBulkAll r
def uptoBulkEntries {H : Type} : List (Lit × DataW H) → Nat
  | [] => 0
  | x :: r => uptoBulkEntry x + uptoBulkEntries r
def uptoBulkEntry {H : Type} : Lit × DataW H → Nat
  | (.string bytes, d) => bytes.length + uptoBulk d + 1
  | (_, d) => uptoBulk d + 1
 end
def uptoSmall : (H : Type) → List (DataW H) → Bool := fun _ ds => decide (uptoBulkAll ds ≤ 1048576)
def OpenSpec.upto (s : _root_.Go.ChangeSpec) : _root_.Go.OpenSpec := { _root_.Go.OpenSpec.ofChange s with cond := some uptoSmall }

/-- 'laws.FnExactValidEnv', WHERE WHAT IT READS IS OF BULK AT MOST 1048576: true; the input reads as it did. -/
def fnExactValidEnvUptoRow : OpenClaim := { program := "ytdihlgkcpooadaa", sum := "b53a2116c02667ab1c1cbabf63033399351f82fe6b308249151f55eaa9370792", func := "loop.example/g00873/laws.FnExactValidEnv", spec := "fnExactValidEnv", unfollowed := true, recurses := true, loops := true, apart := false, narrowed := true }
def FnExactValidEnvUptoSaid : Prop := fnExactValidEnvUptoRow.holds Try.pinned (OpenSpec.upto fnExactValidEnvSpec)

/-- 'laws.FnExactIsPure', WHERE WHAT IT READS IS OF BULK AT MOST 1048576: true; the input reads as it did. -/
def fnExactIsPureUptoRow : OpenClaim := { program := "ytdihlgkcpooadaa", sum := "b53a2116c02667ab1c1cbabf63033399351f82fe6b308249151f55eaa9370792", func := "loop.example/g00873/laws.FnExactIsPure", spec := "fnExactIsPure", unfollowed := true, recurses := true, loops := true, apart := false, narrowed := true }
def FnExactIsPureUptoSaid : Prop := fnExactIsPureUptoRow.holds Try.pinned (OpenSpec.upto fnExactIsPureSpec)

/-- 'laws.FnExactLengthsOf', WHERE WHAT IT READS IS OF BULK AT MOST 1048576: true; the input reads as it did. -/
def fnExactLengthsOfUptoRow : OpenClaim := { program := "ytdihlgkcpooadaa", sum := "b53a2116c02667ab1c1cbabf63033399351f82fe6b308249151f55eaa9370792", func := "loop.example/g00873/laws.FnExactLengthsOf", spec := "fnExactLengthsOf", unfollowed := true, recurses := true, loops := true, apart := false, narrowed := true }
def FnExactLengthsOfUptoSaid : Prop := fnExactLengthsOfUptoRow.holds Try.pinned (OpenSpec.upto fnExactLengthsOfSpec)

/-- 'laws.FnExactFirstBytes', WHERE WHAT IT READS IS OF BULK AT MOST 1048576: true; the input reads as it did. -/
def fnExactFirstBytesUptoRow : OpenClaim := { program := "ytdihlgkcpooadaa", sum := "b53a2116c02667ab1c1cbabf63033399351f82fe6b308249151f55eaa9370792", func := "loop.example/g00873/laws.FnExactFirstBytes", spec := "fnExactFirstBytes", unfollowed := true, recurses := true, loops := true, apart := false, narrowed := true }
def FnExactFirstBytesUptoSaid : Prop := fnExactFirstBytesUptoRow.holds Try.pinned (OpenSpec.upto fnExactFirstBytesSpec)

end Rows
end Go.Proofs.Ytdihlgkcpooadaa
