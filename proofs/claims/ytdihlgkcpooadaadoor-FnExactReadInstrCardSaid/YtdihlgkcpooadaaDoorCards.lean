/-
  DERIVED. GIVEN WITH THE SEED: THE CARDS: each row of YtdihlgkcpooadaaDoorRows.lean that lists a variable, with what it lists TIED to the program's text (the seventh form; the later family's looks); each row that meets fmt, with fmt's text TOLD by the authors' own Lean function (tested against real Go, not proved from fmt's source: count such statements apart). THE CARD IS WHAT COUNTS. Prove the row's statement (the work); the ties are given (YtdihlgkcpooadaaDoorTie.lean); close each card by the builder's one call (the guide's Derived/Test/ToyasCard.lean, 'card_holds'). Laid BY PROGRAM, IN A SANDBOX (cutbox-door.mjs). By AI agents, Wed Nov 11 2026. No macro, syntax, notation, axiom, sorry.
-/
import Derived.Test.YtdihlgkcpooadaaDoorRows
import GoSem.ClaimSeven
namespace Go.Proofs.YtdihlgkcpooadaaDoor
namespace Rows

/-- THE TIED CARD OF 'laws.FnExactReadInstr'. -/
def fnExactReadInstrCard : Claim7 := { stood := { row := fnExactReadInstrRow, standIns := [], harness := (true, "0e6e7b44bf790965e37e76844884f84bf3631cf8d9d20819075c4039b369503a"), looks := true }, kinds := [], alts := [], laidByText := true, laidKinds := [.data, .data, .data, .sentinel, .sentinel], laidTests := true, laidLooks := .later }
def FnExactReadInstrCardSaid : Prop := Claim7.holds Tryd.pinned (.plain (OpenSpec.ofChange fnExactReadInstrSpec)) fnExactReadInstrCard

/-- THE SECOND FORM's CARD OF 'laws.FnExactReadInstr'. -/
def fnExactReadInstrUptoCard : Claim7 := { stood := { row := fnExactReadInstrUptoRow, standIns := [], harness := (true, "0e6e7b44bf790965e37e76844884f84bf3631cf8d9d20819075c4039b369503a"), looks := true }, kinds := [], alts := [], laidByText := true, laidKinds := [.data, .data, .data, .sentinel, .sentinel], laidTests := true, laidLooks := .later }
def FnExactReadInstrUptoCardSaid : Prop := Claim7.holds Tryd.pinned (.plain (OpenSpec.upto fnExactReadInstrSpec)) fnExactReadInstrUptoCard
end Rows
end Go.Proofs.YtdihlgkcpooadaaDoor
