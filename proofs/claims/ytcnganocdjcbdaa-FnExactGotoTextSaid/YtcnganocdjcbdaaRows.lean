/-
  No cell of these rows narrows 'for every input' (looked for: loops, veiled, ifaces, maps, wideKeys, modest, calm, conditions, laid).
  DERIVED. THE GIVEN ROWS OF THIS SEAT. 6 by the template 'for every input the law returns true; each argument reads behind the call as it read before'; 0 by the template 'total and deterministic' (their statements: YtcnganocdjcbdaaTotals.lean).
  GIVEN WITH THE SEED: the statements are not yours to turn. If you find one false, say at which input.
  Laid BY PROGRAM, IN A SANDBOX (cutbox-rows.mjs): the forced cells as the released guide's own fill.sh prints them over the translation 5610c6d5508caa9c… (all of the seat's roots in one cut). By AI agents, Wed Nov 11 2026. No macro, syntax, notation, axiom, sorry.
-/
import Derived.Test.YtcnganocdjcbdaaChecked
import GoSem.Claim
import GoSem.ClaimJoined
import GoSem.ClaimMapViews
import Derived.JoinedTies
import Derived.KernelRfl
namespace Go.Proofs.Ytcnganocdjcbdaa
/- THE CELL 'sum', in the pinned program and in every row, IS THE sha256 OF THE DUMP (.gsa) THAT YtcnganocdjcbdaaProg.lean LOADS. Nothing in Lean hashes anything: it is a label: what it is worth is what the hold of that sum in a sandbox is worth. -/
noncomputable def Try.pinned : Pinned := { name := "ytcnganocdjcbdaa", sum := "5610c6d5508caa9c853a692060171de34a295229330409d9727a4e8af0b9e261", checked := Try.checked }
namespace Rows
def none {H : Type} : Left H := { results := [], args := [] }

/-- 'laws.FnExactImageSum': WHATEVER THE INPUT: true; the input reads as it did. -/
def fnExactImageSumSpec : ChangeSpec := { name := "fnExactImageSum", fn := fun _ => fun
  | [d] => { results := [.lit (.bool true)], args := [d] }
  | _ => none }
def fnExactImageSumRow : OpenClaim := { program := "ytcnganocdjcbdaa", sum := "5610c6d5508caa9c853a692060171de34a295229330409d9727a4e8af0b9e261", func := "loop.example/g00873/laws.FnExactImageSum", spec := "fnExactImageSum", apart := false }
def FnExactImageSumSaid : Prop := fnExactImageSumRow.holds Try.pinned (OpenSpec.ofChange fnExactImageSumSpec)

/-- ITS FALSE NEIGHBOUR: 'it returns false'. Refute it at one input. -/
def fnExactImageSumWrong : ChangeSpec := { name := "fnExactImageSum", fn := fun _ => fun
  | [d] => { results := [.lit (.bool false)], args := [d] }
  | _ => none }
def FnExactImageSumWrongFalsely : Prop := fnExactImageSumRow.holds Try.pinned (OpenSpec.ofChange fnExactImageSumWrong)

/-- 'laws.FnTranslate': WHATEVER THE INPUT: true; the input reads as it did. -/
def fnTranslateSpec : ChangeSpec := { name := "fnTranslate", fn := fun _ => fun
  | [d] => { results := [.lit (.bool true)], args := [d] }
  | _ => none }
def fnTranslateRow : OpenClaim := { program := "ytcnganocdjcbdaa", sum := "5610c6d5508caa9c853a692060171de34a295229330409d9727a4e8af0b9e261", func := "loop.example/g00873/laws.FnTranslate", spec := "fnTranslate", apart := false }
def FnTranslateSaid : Prop := fnTranslateRow.holds Try.pinned (OpenSpec.ofChange fnTranslateSpec)

/-- ITS FALSE NEIGHBOUR: 'it returns false'. Refute it at one input. -/
def fnTranslateWrong : ChangeSpec := { name := "fnTranslate", fn := fun _ => fun
  | [d] => { results := [.lit (.bool false)], args := [d] }
  | _ => none }
def FnTranslateWrongFalsely : Prop := fnTranslateRow.holds Try.pinned (OpenSpec.ofChange fnTranslateWrong)

/-- 'laws.FnExactBuiltinArity': WHATEVER THE INPUT: true; the input reads as it did. -/
def fnExactBuiltinAritySpec : ChangeSpec := { name := "fnExactBuiltinArity", fn := fun _ => fun
  | [d] => { results := [.lit (.bool true)], args := [d] }
  | _ => none }
def fnExactBuiltinArityRow : OpenClaim := { program := "ytcnganocdjcbdaa", sum := "5610c6d5508caa9c853a692060171de34a295229330409d9727a4e8af0b9e261", func := "loop.example/g00873/laws.FnExactBuiltinArity", spec := "fnExactBuiltinArity", apart := false }
def FnExactBuiltinAritySaid : Prop := fnExactBuiltinArityRow.holds Try.pinned (OpenSpec.ofChange fnExactBuiltinAritySpec)

/-- ITS FALSE NEIGHBOUR: 'it returns false'. Refute it at one input. -/
def fnExactBuiltinArityWrong : ChangeSpec := { name := "fnExactBuiltinArity", fn := fun _ => fun
  | [d] => { results := [.lit (.bool false)], args := [d] }
  | _ => none }
def FnExactBuiltinArityWrongFalsely : Prop := fnExactBuiltinArityRow.holds Try.pinned (OpenSpec.ofChange fnExactBuiltinArityWrong)

/-- 'laws.FnExactNameOfValue': WHATEVER THE INPUT: true; the input reads as it did. -/
def fnExactNameOfValueSpec : ChangeSpec := { name := "fnExactNameOfValue", fn := fun _ => fun
  | [d] => { results := [.lit (.bool true)], args := [d] }
  | _ => none }
def fnExactNameOfValueRow : OpenClaim := { program := "ytcnganocdjcbdaa", sum := "5610c6d5508caa9c853a692060171de34a295229330409d9727a4e8af0b9e261", func := "loop.example/g00873/laws.FnExactNameOfValue", spec := "fnExactNameOfValue", unfollowed := true, recurses := true, apart := false }
def FnExactNameOfValueSaid : Prop := fnExactNameOfValueRow.holds Try.pinned (OpenSpec.ofChange fnExactNameOfValueSpec)

/-- ITS FALSE NEIGHBOUR: 'it returns false'. Refute it at one input. -/
def fnExactNameOfValueWrong : ChangeSpec := { name := "fnExactNameOfValue", fn := fun _ => fun
  | [d] => { results := [.lit (.bool false)], args := [d] }
  | _ => none }
def FnExactNameOfValueWrongFalsely : Prop := fnExactNameOfValueRow.holds Try.pinned (OpenSpec.ofChange fnExactNameOfValueWrong)

/-- 'laws.FnExactBuiltinNames': WHATEVER THE INPUT: true; the input reads as it did. -/
def fnExactBuiltinNamesSpec : ChangeSpec := { name := "fnExactBuiltinNames", fn := fun _ => fun
  | [] => { results := [.lit (.bool true)], args := [] }
  | _ => none }
def fnExactBuiltinNamesRow : OpenClaim := { program := "ytcnganocdjcbdaa", sum := "5610c6d5508caa9c853a692060171de34a295229330409d9727a4e8af0b9e261", func := "loop.example/g00873/laws.FnExactBuiltinNames", spec := "fnExactBuiltinNames", apart := false }
def FnExactBuiltinNamesSaid : Prop := fnExactBuiltinNamesRow.holds Try.pinned (OpenSpec.ofChange fnExactBuiltinNamesSpec)

/-- ITS FALSE NEIGHBOUR: 'it returns false'. Refute it at one input. -/
def fnExactBuiltinNamesWrong : ChangeSpec := { name := "fnExactBuiltinNames", fn := fun _ => fun
  | [] => { results := [.lit (.bool false)], args := [] }
  | _ => none }
def FnExactBuiltinNamesWrongFalsely : Prop := fnExactBuiltinNamesRow.holds Try.pinned (OpenSpec.ofChange fnExactBuiltinNamesWrong)

/-- 'laws.FnExactGotoText': WHATEVER THE INPUT: true; the input reads as it did. -/
def fnExactGotoTextSpec : ChangeSpec := { name := "fnExactGotoText", fn := fun _ => fun
  | [d] => { results := [.lit (.bool true)], args := [d] }
  | _ => none }
def fnExactGotoTextRow : OpenClaim := { program := "ytcnganocdjcbdaa", sum := "5610c6d5508caa9c853a692060171de34a295229330409d9727a4e8af0b9e261", func := "loop.example/g00873/laws.FnExactGotoText", spec := "fnExactGotoText", unfollowed := true, recurses := true, apart := false }
def FnExactGotoTextSaid : Prop := fnExactGotoTextRow.holds Try.pinned (OpenSpec.ofChange fnExactGotoTextSpec)

/-- ITS FALSE NEIGHBOUR: 'it returns false'. Refute it at one input. -/
def fnExactGotoTextWrong : ChangeSpec := { name := "fnExactGotoText", fn := fun _ => fun
  | [d] => { results := [.lit (.bool false)], args := [d] }
  | _ => none }
def FnExactGotoTextWrongFalsely : Prop := fnExactGotoTextRow.holds Try.pinned (OpenSpec.ofChange fnExactGotoTextWrong)

/- THE SECOND FORM. 'bulk': how many values and letters a reading holds, each counted each time it is reached (what is shared counts as often as it is met; a slice's spare places count too). A statement '..UptoSaid' is the law's where the arguments, and the package variables that the reading takes, are together of bulk at most 1048576: NARROWER than '..Said'. Prove '..Said' where nothing that the law and all that it calls make is longer than what came in: it says more and counts as full. Else prove '..UptoSaid'. A law counts once. -/
mutual
def uptoBulk {H : Type} : DataW H → Nat
  | .lit (.string bytes) => bytes.length + 1
  | .lit _ => 1
  | .nil => 1
  | .ptr d => uptoBulk d + 1
  | .slice elems spare => uptoBulkAll elems + uptoBulkAll spare + 1
  | .agg parts => uptoBulkAll parts + 1
  | .iface _ d => uptoBulk d + 1
  | .map entries => uptoBulkEntries entries + 1
  | .held _ => 1
def uptoBulkAll {H : Type} : List (DataW H) → Nat
  | [] => 0
  | d :: r => uptoBulk d + uptoBulkAll r
def uptoBulkEntries {H : Type} : List (Lit × DataW H) → Nat
  | [] => 0
  | x :: r => uptoBulkEntry x + uptoBulkEntries r
def uptoBulkEntry {H : Type} : Lit × DataW H → Nat
  | (.string bytes, d) => bytes.length + uptoBulk d + 1
  | (_, d) => uptoBulk d + 1
 end
def uptoSmall : (H : Type) → List (DataW H) → Bool := fun _ ds => decide (uptoBulkAll ds ≤ 1048576)
def OpenSpec.upto (s : _root_.Go.ChangeSpec) : _root_.Go.OpenSpec := { _root_.Go.OpenSpec.ofChange s with cond := some uptoSmall }

/-- 'laws.FnExactImageSum', WHERE WHAT IT READS IS OF BULK AT MOST 1048576: true; the input reads as it did. -/
def fnExactImageSumUptoRow : OpenClaim := { program := "ytcnganocdjcbdaa", sum := "5610c6d5508caa9c853a692060171de34a295229330409d9727a4e8af0b9e261", func := "loop.example/g00873/laws.FnExactImageSum", spec := "fnExactImageSum", apart := false, narrowed := true }
def FnExactImageSumUptoSaid : Prop := fnExactImageSumUptoRow.holds Try.pinned (OpenSpec.upto fnExactImageSumSpec)

/-- 'laws.FnTranslate', WHERE WHAT IT READS IS OF BULK AT MOST 1048576: true; the input reads as it did. -/
def fnTranslateUptoRow : OpenClaim := { program := "ytcnganocdjcbdaa", sum := "5610c6d5508caa9c853a692060171de34a295229330409d9727a4e8af0b9e261", func := "loop.example/g00873/laws.FnTranslate", spec := "fnTranslate", apart := false, narrowed := true }
def FnTranslateUptoSaid : Prop := fnTranslateUptoRow.holds Try.pinned (OpenSpec.upto fnTranslateSpec)

/-- 'laws.FnExactBuiltinArity', WHERE WHAT IT READS IS OF BULK AT MOST 1048576: true; the input reads as it did. -/
def fnExactBuiltinArityUptoRow : OpenClaim := { program := "ytcnganocdjcbdaa", sum := "5610c6d5508caa9c853a692060171de34a295229330409d9727a4e8af0b9e261", func := "loop.example/g00873/laws.FnExactBuiltinArity", spec := "fnExactBuiltinArity", apart := false, narrowed := true }
def FnExactBuiltinArityUptoSaid : Prop := fnExactBuiltinArityUptoRow.holds Try.pinned (OpenSpec.upto fnExactBuiltinAritySpec)

/-- 'laws.FnExactNameOfValue', WHERE WHAT IT READS IS OF BULK AT MOST 1048576: true; the input reads as it did. -/
def fnExactNameOfValueUptoRow : OpenClaim := { program := "ytcnganocdjcbdaa", sum := "5610c6d5508caa9c853a692060171de34a295229330409d9727a4e8af0b9e261", func := "loop.example/g00873/laws.FnExactNameOfValue", spec := "fnExactNameOfValue", unfollowed := true, recurses := true, apart := false, narrowed := true }
def FnExactNameOfValueUptoSaid : Prop := fnExactNameOfValueUptoRow.holds Try.pinned (OpenSpec.upto fnExactNameOfValueSpec)

/-- 'laws.FnExactBuiltinNames', WHERE WHAT IT READS IS OF BULK AT MOST 1048576: true; the input reads as it did. -/
def fnExactBuiltinNamesUptoRow : OpenClaim := { program := "ytcnganocdjcbdaa", sum := "5610c6d5508caa9c853a692060171de34a295229330409d9727a4e8af0b9e261", func := "loop.example/g00873/laws.FnExactBuiltinNames", spec := "fnExactBuiltinNames", apart := false, narrowed := true }
def FnExactBuiltinNamesUptoSaid : Prop := fnExactBuiltinNamesUptoRow.holds Try.pinned (OpenSpec.upto fnExactBuiltinNamesSpec)

/-- 'laws.FnExactGotoText', WHERE WHAT IT READS IS OF BULK AT MOST 1048576: true; the input reads as it did. -/
def fnExactGotoTextUptoRow : OpenClaim := { program := "ytcnganocdjcbdaa", sum := "5610c6d5508caa9c853a692060171de34a295229330409d9727a4e8af0b9e261", func := "loop.example/g00873/laws.FnExactGotoText", spec := "fnExactGotoText", unfollowed := true, recurses := true, apart := false, narrowed := true }
def FnExactGotoTextUptoSaid : Prop := fnExactGotoTextUptoRow.holds Try.pinned (OpenSpec.upto fnExactGotoTextSpec)

end Rows
end Go.Proofs.Ytcnganocdjcbdaa
