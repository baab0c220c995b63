/-
  NARROWER THAN 'FOR EVERY INPUT', by the rows' own cells (each row's printed sentence says how): FnExactSameGen: loops.
  DERIVED. THE GIVEN ROWS OF THIS SEAT. 5 by the template 'for every input the law returns true; each argument reads behind the call as it read before'; 0 by the template 'total and deterministic' (their statements: YtcnganocdjcbdabTotals.lean).
  GIVEN WITH THE SEED: the statements are not yours to turn. If you find one false, say at which input.
  Laid BY PROGRAM, IN A SANDBOX (cutbox-rows.mjs): the forced cells as the released guide's own fill.sh prints them over the translation df94d1248e16b02d… (all of the seat's roots in one cut). By AI agents, Wed Nov 11 2026. No macro, syntax, notation, axiom, sorry.
-/
import Derived.Test.YtcnganocdjcbdabChecked
import GoSem.Claim
import GoSem.ClaimJoined
import GoSem.ClaimMapViews
import Derived.JoinedTies
import Derived.KernelRfl
namespace Go.Proofs.Ytcnganocdjcbdab
/- THE CELL 'sum', in the pinned program and in every row, IS THE sha256 OF THE DUMP (.gsa) THAT YtcnganocdjcbdabProg.lean LOADS. Nothing in Lean hashes anything: it is a label: what it is worth is what the hold of that sum in a sandbox is worth. -/
noncomputable def Try.pinned : Pinned := { name := "ytcnganocdjcbdab", sum := "df94d1248e16b02dd3df71393559d136d7ef23018ccab36af879a32016a01ea9", checked := Try.checked }
namespace Rows
def none {H : Type} : Left H := { results := [], args := [] }

/-- 'laws.FnCaptures': WHATEVER THE INPUT: true; the input reads as it did. -/
def fnCapturesSpec : ChangeSpec := { name := "fnCaptures", fn := fun _ => fun
  | [d] => { results := [.lit (.bool true)], args := [d] }
  | _ => none }
def fnCapturesRow : OpenClaim := { program := "ytcnganocdjcbdab", sum := "df94d1248e16b02dd3df71393559d136d7ef23018ccab36af879a32016a01ea9", func := "loop.example/g00873/laws.FnCaptures", spec := "fnCaptures", unfollowed := true, recurses := true, apart := false }
def FnCapturesSaid : Prop := fnCapturesRow.holds Try.pinned (OpenSpec.ofChange fnCapturesSpec)

/-- ITS FALSE NEIGHBOUR: 'it returns false'. Refute it at one input. -/
def fnCapturesWrong : ChangeSpec := { name := "fnCaptures", fn := fun _ => fun
  | [d] => { results := [.lit (.bool false)], args := [d] }
  | _ => none }
def FnCapturesWrongFalsely : Prop := fnCapturesRow.holds Try.pinned (OpenSpec.ofChange fnCapturesWrong)

/-- 'laws.FnExactPatternConstant': WHATEVER THE INPUT: true; the input reads as it did. -/
def fnExactPatternConstantSpec : ChangeSpec := { name := "fnExactPatternConstant", fn := fun _ => fun
  | [d] => { results := [.lit (.bool true)], args := [d] }
  | _ => none }
def fnExactPatternConstantRow : OpenClaim := { program := "ytcnganocdjcbdab", sum := "df94d1248e16b02dd3df71393559d136d7ef23018ccab36af879a32016a01ea9", func := "loop.example/g00873/laws.FnExactPatternConstant", spec := "fnExactPatternConstant", recurses := true, apart := false }
def FnExactPatternConstantSaid : Prop := fnExactPatternConstantRow.holds Try.pinned (OpenSpec.ofChange fnExactPatternConstantSpec)

/-- ITS FALSE NEIGHBOUR: 'it returns false'. Refute it at one input. -/
def fnExactPatternConstantWrong : ChangeSpec := { name := "fnExactPatternConstant", fn := fun _ => fun
  | [d] => { results := [.lit (.bool false)], args := [d] }
  | _ => none }
def FnExactPatternConstantWrongFalsely : Prop := fnExactPatternConstantRow.holds Try.pinned (OpenSpec.ofChange fnExactPatternConstantWrong)

/-- 'laws.FnExactReplaceMatch': WHATEVER THE INPUT: true; the input reads as it did. -/
def fnExactReplaceMatchSpec : ChangeSpec := { name := "fnExactReplaceMatch", fn := fun _ => fun
  | [d1, d2, d3] => { results := [.lit (.bool true)], args := [d1, d2, d3] }
  | _ => none }
def fnExactReplaceMatchRow : OpenClaim := { program := "ytcnganocdjcbdab", sum := "df94d1248e16b02dd3df71393559d136d7ef23018ccab36af879a32016a01ea9", func := "loop.example/g00873/laws.FnExactReplaceMatch", spec := "fnExactReplaceMatch", apart := false }
def FnExactReplaceMatchSaid : Prop := fnExactReplaceMatchRow.holds Try.pinned (OpenSpec.ofChange fnExactReplaceMatchSpec)

/-- ITS FALSE NEIGHBOUR: 'it returns false'. Refute it at one input. -/
def fnExactReplaceMatchWrong : ChangeSpec := { name := "fnExactReplaceMatch", fn := fun _ => fun
  | [d1, d2, d3] => { results := [.lit (.bool false)], args := [d1, d2, d3] }
  | _ => none }
def FnExactReplaceMatchWrongFalsely : Prop := fnExactReplaceMatchRow.holds Try.pinned (OpenSpec.ofChange fnExactReplaceMatchWrong)

/-- 'laws.FnExactSameGen': WHATEVER THE INPUT: true; the input reads as it did. -/
def fnExactSameGenSpec : ChangeSpec := { name := "fnExactSameGen", fn := fun _ => fun
  | [d1, d2] => { results := [.lit (.bool true)], args := [d1, d2] }
  | _ => none }
def fnExactSameGenRow : OpenClaim := { program := "ytcnganocdjcbdab", sum := "df94d1248e16b02dd3df71393559d136d7ef23018ccab36af879a32016a01ea9", func := "loop.example/g00873/laws.FnExactSameGen", spec := "fnExactSameGen", unfollowed := true, recurses := true, loops := true, apart := false }
def FnExactSameGenSaid : Prop := fnExactSameGenRow.holds Try.pinned (OpenSpec.ofChange fnExactSameGenSpec)

/-- ITS FALSE NEIGHBOUR: 'it returns false'. Refute it at one input. -/
def fnExactSameGenWrong : ChangeSpec := { name := "fnExactSameGen", fn := fun _ => fun
  | [d1, d2] => { results := [.lit (.bool false)], args := [d1, d2] }
  | _ => none }
def FnExactSameGenWrongFalsely : Prop := fnExactSameGenRow.holds Try.pinned (OpenSpec.ofChange fnExactSameGenWrong)

/-- 'laws.FnExactFinalOf': WHATEVER THE INPUT: true; the input reads as it did. -/
def fnExactFinalOfSpec : ChangeSpec := { name := "fnExactFinalOf", fn := fun _ => fun
  | [d] => { results := [.lit (.bool true)], args := [d] }
  | _ => none }
def fnExactFinalOfRow : OpenClaim := { program := "ytcnganocdjcbdab", sum := "df94d1248e16b02dd3df71393559d136d7ef23018ccab36af879a32016a01ea9", func := "loop.example/g00873/laws.FnExactFinalOf", spec := "fnExactFinalOf", unfollowed := true, recurses := true, apart := false }
def FnExactFinalOfSaid : Prop := fnExactFinalOfRow.holds Try.pinned (OpenSpec.ofChange fnExactFinalOfSpec)

/-- ITS FALSE NEIGHBOUR: 'it returns false'. Refute it at one input. -/
def fnExactFinalOfWrong : ChangeSpec := { name := "fnExactFinalOf", fn := fun _ => fun
  | [d] => { results := [.lit (.bool false)], args := [d] }
  | _ => none }
def FnExactFinalOfWrongFalsely : Prop := fnExactFinalOfRow.holds Try.pinned (OpenSpec.ofChange fnExactFinalOfWrong)

/- THE SECOND FORM. 'bulk': how many values and letters a reading holds, each counted each time it is reached (what is shared counts as often as it is met; a slice's spare places count too). A statement '..UptoSaid' is the law's where the arguments, and the package variables that the reading takes, are together of bulk at most 1048576: NARROWER than '..Said'. Prove '..Said' where nothing that the law and all that it calls make is longer than what came in: it says more and counts as full. Else prove '..UptoSaid'. A law counts once. -/
mutual
def uptoBulk {H : Type} : DataW H → Nat
  | .lit (.string bytes) => bytes.length + 1
  | .lit _ => 1
  | .nil => 1
  | .ptr d => uptoBulk d + 1
  | .slice elems spare => uptoBulkAll elems + uptoBulkAll spare + 1
  | .agg parts => uptoBulkAll parts + 1
  | .iface _ d => uptoBulk d + 1
  | .map entries => uptoBulkEntries entries + 1
  | .held _ => 1
def uptoBulkAll {H : Type} : List (DataW H) → Nat
  | [] => 0
  | d :: r => uptoBulk d + uptoBulkAll r
def uptoBulkEntries {H : Type} : List (Lit × DataW H) → Nat
  | [] => 0
  | x :: r => uptoBulkEntry x + uptoBulkEntries r
def uptoBulkEntry {H : Type} : Lit × DataW H → Nat
  | (.string bytes, d) => bytes.length + uptoBulk d + 1
  | (_, d) => uptoBulk d + 1
 end
def uptoSmall : (H : Type) → List (DataW H) → Bool := fun _ ds => decide (uptoBulkAll ds ≤ 1048576)
def OpenSpec.upto (s : _root_.Go.ChangeSpec) : _root_.Go.OpenSpec := { _root_.Go.OpenSpec.ofChange s with cond := some uptoSmall }

/-- 'laws.FnCaptures', WHERE WHAT IT READS IS OF BULK AT MOST 1048576: true; the input reads as it did. -/
def fnCapturesUptoRow : OpenClaim := { program := "ytcnganocdjcbdab", sum := "df94d1248e16b02dd3df71393559d136d7ef23018ccab36af879a32016a01ea9", func := "loop.example/g00873/laws.FnCaptures", spec := "fnCaptures", unfollowed := true, recurses := true, apart := false, narrowed := true }
def FnCapturesUptoSaid : Prop := fnCapturesUptoRow.holds Try.pinned (OpenSpec.upto fnCapturesSpec)

/-- 'laws.FnExactPatternConstant', WHERE WHAT IT READS IS OF BULK AT MOST 1048576: true; the input reads as it did. -/
def fnExactPatternConstantUptoRow : OpenClaim := { program := "ytcnganocdjcbdab", sum := "df94d1248e16b02dd3df71393559d136d7ef23018ccab36af879a32016a01ea9", func := "loop.example/g00873/laws.FnExactPatternConstant", spec := "fnExactPatternConstant", recurses := true, apart := false, narrowed := true }
def FnExactPatternConstantUptoSaid : Prop := fnExactPatternConstantUptoRow.holds Try.pinned (OpenSpec.upto fnExactPatternConstantSpec)

/-- 'laws.FnExactReplaceMatch', WHERE WHAT IT READS IS OF BULK AT MOST 1048576: true; the input reads as it did. -/
def fnExactReplaceMatchUptoRow : OpenClaim := { program := "ytcnganocdjcbdab", sum := "df94d1248e16b02dd3df71393559d136d7ef23018ccab36af879a32016a01ea9", func := "loop.example/g00873/laws.FnExactReplaceMatch", spec := "fnExactReplaceMatch", apart := false, narrowed := true }
def FnExactReplaceMatchUptoSaid : Prop := fnExactReplaceMatchUptoRow.holds Try.pinned (OpenSpec.upto fnExactReplaceMatchSpec)

/-- 'laws.FnExactSameGen', WHERE WHAT IT READS IS OF BULK AT MOST 1048576: true; the input reads as it did. -/
def fnExactSameGenUptoRow : OpenClaim := { program := "ytcnganocdjcbdab", sum := "df94d1248e16b02dd3df71393559d136d7ef23018ccab36af879a32016a01ea9", func := "loop.example/g00873/laws.FnExactSameGen", spec := "fnExactSameGen", unfollowed := true, recurses := true, loops := true, apart := false, narrowed := true }
def FnExactSameGenUptoSaid : Prop := fnExactSameGenUptoRow.holds Try.pinned (OpenSpec.upto fnExactSameGenSpec)

/-- 'laws.FnExactFinalOf', WHERE WHAT IT READS IS OF BULK AT MOST 1048576: true; the input reads as it did. -/
def fnExactFinalOfUptoRow : OpenClaim := { program := "ytcnganocdjcbdab", sum := "df94d1248e16b02dd3df71393559d136d7ef23018ccab36af879a32016a01ea9", func := "loop.example/g00873/laws.FnExactFinalOf", spec := "fnExactFinalOf", unfollowed := true, recurses := true, apart := false, narrowed := true }
def FnExactFinalOfUptoSaid : Prop := fnExactFinalOfUptoRow.holds Try.pinned (OpenSpec.upto fnExactFinalOfSpec)

end Rows
end Go.Proofs.Ytcnganocdjcbdab
