/-
  No cell of these rows narrows 'for every input' (looked for: loops, veiled, ifaces, maps, wideKeys, modest, calm, conditions, laid).
  DERIVED. THE GIVEN ROWS OF THIS SEAT. 5 by the template 'for every input the law returns true; each argument reads behind the call as it read before'; 0 by the template 'total and deterministic' (their statements: YtnneadpahjkhgaaTotals.lean).
  GIVEN WITH THE SEED: the statements are not yours to turn. If you find one false, say at which input.
  Laid BY PROGRAM, IN A SANDBOX (cutbox-rows.mjs): the forced cells as the released guide's own fill.sh prints them over the translation 8f3c6de3dce1cee7… (all of the seat's roots in one cut). By AI agents, Wed Nov 11 2026. No macro, syntax, notation, axiom, sorry.
-/
import Derived.Test.YtnneadpahjkhgaaChecked
import GoSem.Claim
import GoSem.ClaimJoined
import GoSem.ClaimMapViews
import Derived.JoinedTies
import Derived.KernelRfl
namespace Go.Proofs.Ytnneadpahjkhgaa
/- THE CELL 'sum', in the pinned program and in every row, IS THE sha256 OF THE DUMP (.gsa) THAT YtnneadpahjkhgaaProg.lean LOADS. Nothing in Lean hashes anything: it is a label: what it is worth is what the hold of that sum in a sandbox is worth. -/
noncomputable def Try.pinned : Pinned := { name := "ytnneadpahjkhgaa", sum := "8f3c6de3dce1cee7570e7d8fc0e81d6bdfd48c59b8397836a3f7fff723a53a22", checked := Try.checked }
namespace Rows
def none {H : Type} : Left H := { results := [], args := [] }

/-- 'laws.FnExactSameCode': WHATEVER THE INPUT: true; the input reads as it did. -/
def fnExactSameCodeSpec : ChangeSpec := { name := "fnExactSameCode", fn := fun _ => fun
  | [d1, d2] => { results := [.lit (.bool true)], args := [d1, d2] }
  | _ => none }
def fnExactSameCodeRow : OpenClaim := { program := "ytnneadpahjkhgaa", sum := "8f3c6de3dce1cee7570e7d8fc0e81d6bdfd48c59b8397836a3f7fff723a53a22", func := "loop.example/g00873/laws.FnExactSameCode", spec := "fnExactSameCode", apart := false }
def FnExactSameCodeSaid : Prop := fnExactSameCodeRow.holds Try.pinned (OpenSpec.ofChange fnExactSameCodeSpec)

/-- ITS FALSE NEIGHBOUR: 'it returns false'. Refute it at one input. -/
def fnExactSameCodeWrong : ChangeSpec := { name := "fnExactSameCode", fn := fun _ => fun
  | [d1, d2] => { results := [.lit (.bool false)], args := [d1, d2] }
  | _ => none }
def FnExactSameCodeWrongFalsely : Prop := fnExactSameCodeRow.holds Try.pinned (OpenSpec.ofChange fnExactSameCodeWrong)

/-- 'laws.FnExactSameConsole': WHATEVER THE INPUT: true; the input reads as it did. -/
def fnExactSameConsoleSpec : ChangeSpec := { name := "fnExactSameConsole", fn := fun _ => fun
  | [d1, d2] => { results := [.lit (.bool true)], args := [d1, d2] }
  | _ => none }
def fnExactSameConsoleRow : OpenClaim := { program := "ytnneadpahjkhgaa", sum := "8f3c6de3dce1cee7570e7d8fc0e81d6bdfd48c59b8397836a3f7fff723a53a22", func := "loop.example/g00873/laws.FnExactSameConsole", spec := "fnExactSameConsole", unfollowed := true, recurses := true, apart := false }
def FnExactSameConsoleSaid : Prop := fnExactSameConsoleRow.holds Try.pinned (OpenSpec.ofChange fnExactSameConsoleSpec)

/-- ITS FALSE NEIGHBOUR: 'it returns false'. Refute it at one input. -/
def fnExactSameConsoleWrong : ChangeSpec := { name := "fnExactSameConsole", fn := fun _ => fun
  | [d1, d2] => { results := [.lit (.bool false)], args := [d1, d2] }
  | _ => none }
def FnExactSameConsoleWrongFalsely : Prop := fnExactSameConsoleRow.holds Try.pinned (OpenSpec.ofChange fnExactSameConsoleWrong)

/-- 'laws.FnExactValidConsole': WHATEVER THE INPUT: true; the input reads as it did. -/
def fnExactValidConsoleSpec : ChangeSpec := { name := "fnExactValidConsole", fn := fun _ => fun
  | [d] => { results := [.lit (.bool true)], args := [d] }
  | _ => none }
def fnExactValidConsoleRow : OpenClaim := { program := "ytnneadpahjkhgaa", sum := "8f3c6de3dce1cee7570e7d8fc0e81d6bdfd48c59b8397836a3f7fff723a53a22", func := "loop.example/g00873/laws.FnExactValidConsole", spec := "fnExactValidConsole", unfollowed := true, recurses := true, apart := false }
def FnExactValidConsoleSaid : Prop := fnExactValidConsoleRow.holds Try.pinned (OpenSpec.ofChange fnExactValidConsoleSpec)

/-- ITS FALSE NEIGHBOUR: 'it returns false'. Refute it at one input. -/
def fnExactValidConsoleWrong : ChangeSpec := { name := "fnExactValidConsole", fn := fun _ => fun
  | [d] => { results := [.lit (.bool false)], args := [d] }
  | _ => none }
def FnExactValidConsoleWrongFalsely : Prop := fnExactValidConsoleRow.holds Try.pinned (OpenSpec.ofChange fnExactValidConsoleWrong)

/-- 'laws.FnExactSameScope': WHATEVER THE INPUT: true; the input reads as it did. -/
def fnExactSameScopeSpec : ChangeSpec := { name := "fnExactSameScope", fn := fun _ => fun
  | [d1, d2] => { results := [.lit (.bool true)], args := [d1, d2] }
  | _ => none }
def fnExactSameScopeRow : OpenClaim := { program := "ytnneadpahjkhgaa", sum := "8f3c6de3dce1cee7570e7d8fc0e81d6bdfd48c59b8397836a3f7fff723a53a22", func := "loop.example/g00873/laws.FnExactSameScope", spec := "fnExactSameScope", unfollowed := true, recurses := true, apart := false }
def FnExactSameScopeSaid : Prop := fnExactSameScopeRow.holds Try.pinned (OpenSpec.ofChange fnExactSameScopeSpec)

/-- ITS FALSE NEIGHBOUR: 'it returns false'. Refute it at one input. -/
def fnExactSameScopeWrong : ChangeSpec := { name := "fnExactSameScope", fn := fun _ => fun
  | [d1, d2] => { results := [.lit (.bool false)], args := [d1, d2] }
  | _ => none }
def FnExactSameScopeWrongFalsely : Prop := fnExactSameScopeRow.holds Try.pinned (OpenSpec.ofChange fnExactSameScopeWrong)

/-- 'laws.FnExactSameMemory': WHATEVER THE INPUT: true; the input reads as it did. -/
def fnExactSameMemorySpec : ChangeSpec := { name := "fnExactSameMemory", fn := fun _ => fun
  | [d1, d2] => { results := [.lit (.bool true)], args := [d1, d2] }
  | _ => none }
def fnExactSameMemoryRow : OpenClaim := { program := "ytnneadpahjkhgaa", sum := "8f3c6de3dce1cee7570e7d8fc0e81d6bdfd48c59b8397836a3f7fff723a53a22", func := "loop.example/g00873/laws.FnExactSameMemory", spec := "fnExactSameMemory", unfollowed := true, recurses := true, apart := false }
def FnExactSameMemorySaid : Prop := fnExactSameMemoryRow.holds Try.pinned (OpenSpec.ofChange fnExactSameMemorySpec)

/-- ITS FALSE NEIGHBOUR: 'it returns false'. Refute it at one input. -/
def fnExactSameMemoryWrong : ChangeSpec := { name := "fnExactSameMemory", fn := fun _ => fun
  | [d1, d2] => { results := [.lit (.bool false)], args := [d1, d2] }
  | _ => none }
def FnExactSameMemoryWrongFalsely : Prop := fnExactSameMemoryRow.holds Try.pinned (OpenSpec.ofChange fnExactSameMemoryWrong)

/- THE SECOND FORM. 'bulk': how many values and letters a reading holds, each counted each time it is reached (what is shared counts as often as it is met; a slice's spare places count too). A statement '..UptoSaid' is the law's where the arguments, and the package variables that the reading takes, are together of bulk at most 1048576: NARROWER than '..Said'. Prove '..Said' where nothing that the law and all that it calls make is longer than what came in: it says more and counts as full. Else prove '..UptoSaid'. A law counts once. -/
mutual
def uptoBulk {H : Type} : DataW H → Nat
  | .lit (.string bytes) => bytes.length + 1
  | .lit _ => 1
  | .nil => 1
  | .ptr d => uptoBulk d + 1
  | .slice elems spare => uptoBulkAll elems + uptoBulkAll spare + 1
  | .agg parts => uptoBulkAll parts + 1
  | .iface _ d => uptoBulk d + 1
  | .map entries => uptoBulkEntries entries + 1
  | .held _ => 1
def uptoBulkAll {H : Type} : List (DataW H) → Nat
  | [] => 0
  | d :: r => uptoBulk d + uptoBulkAll r
def uptoBulkEntries {H : Type} : List (Lit × DataW H) → Nat
  | [] => 0
  | x :: r => uptoBulkEntry x + uptoBulkEntries r
def uptoBulkEntry {H : Type} : Lit × DataW H → Nat
  | (.string bytes, d) => bytes.length + uptoBulk d + 1
  | (_, d) => uptoBulk d + 1
 end
def uptoSmall : (H : Type) → List (DataW H) → Bool := fun _ ds => decide (uptoBulkAll ds ≤ 1048576)
def OpenSpec.upto (s : _root_.Go.ChangeSpec) : _root_.Go.OpenSpec := { _root_.Go.OpenSpec.ofChange s with cond := some uptoSmall }

/-- 'laws.FnExactSameCode', WHERE WHAT IT READS IS OF BULK AT MOST 1048576: true; the input reads as it did. -/
def fnExactSameCodeUptoRow : OpenClaim := { program := "ytnneadpahjkhgaa", sum := "8f3c6de3dce1cee7570e7d8fc0e81d6bdfd48c59b8397836a3f7fff723a53a22", func := "loop.example/g00873/laws.FnExactSameCode", spec := "fnExactSameCode", apart := false, narrowed := true }
def FnExactSameCodeUptoSaid : Prop := fnExactSameCodeUptoRow.holds Try.pinned (OpenSpec.upto fnExactSameCodeSpec)

/-- 'laws.FnExactSameConsole', WHERE WHAT IT READS IS OF BULK AT MOST 1048576: true; the input reads as it did. -/
def fnExactSameConsoleUptoRow : OpenClaim := { program := "ytnneadpahjkhgaa", sum := "8f3c6de3dce1cee7570e7d8fc0e81d6bdfd48c59b8397836a3f7fff723a53a22", func := "loop.example/g00873/laws.FnExactSameConsole", spec := "fnExactSameConsole", unfollowed := true, recurses := true, apart := false, narrowed := true }
def FnExactSameConsoleUptoSaid : Prop := fnExactSameConsoleUptoRow.holds Try.pinned (OpenSpec.upto fnExactSameConsoleSpec)

/-- 'laws.FnExactValidConsole', WHERE WHAT IT READS IS OF BULK AT MOST 1048576: true; the input reads as it did. -/
def fnExactValidConsoleUptoRow : OpenClaim := { program := "ytnneadpahjkhgaa", sum := "8f3c6de3dce1cee7570e7d8fc0e81d6bdfd48c59b8397836a3f7fff723a53a22", func := "loop.example/g00873/laws.FnExactValidConsole", spec := "fnExactValidConsole", unfollowed := true, recurses := true, apart := false, narrowed := true }
def FnExactValidConsoleUptoSaid : Prop := fnExactValidConsoleUptoRow.holds Try.pinned (OpenSpec.upto fnExactValidConsoleSpec)

/-- 'laws.FnExactSameScope', WHERE WHAT IT READS IS OF BULK AT MOST 1048576: true; the input reads as it did. -/
def fnExactSameScopeUptoRow : OpenClaim := { program := "ytnneadpahjkhgaa", sum := "8f3c6de3dce1cee7570e7d8fc0e81d6bdfd48c59b8397836a3f7fff723a53a22", func := "loop.example/g00873/laws.FnExactSameScope", spec := "fnExactSameScope", unfollowed := true, recurses := true, apart := false, narrowed := true }
def FnExactSameScopeUptoSaid : Prop := fnExactSameScopeUptoRow.holds Try.pinned (OpenSpec.upto fnExactSameScopeSpec)

/-- 'laws.FnExactSameMemory', WHERE WHAT IT READS IS OF BULK AT MOST 1048576: true; the input reads as it did. -/
def fnExactSameMemoryUptoRow : OpenClaim := { program := "ytnneadpahjkhgaa", sum := "8f3c6de3dce1cee7570e7d8fc0e81d6bdfd48c59b8397836a3f7fff723a53a22", func := "loop.example/g00873/laws.FnExactSameMemory", spec := "fnExactSameMemory", unfollowed := true, recurses := true, apart := false, narrowed := true }
def FnExactSameMemoryUptoSaid : Prop := fnExactSameMemoryUptoRow.holds Try.pinned (OpenSpec.upto fnExactSameMemorySpec)

end Rows
end Go.Proofs.Ytnneadpahjkhgaa
