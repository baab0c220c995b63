/-
  DERIVED. GIVEN WITH THE SEED: THE CARDS: each row of YtpbjagjknaglgaaDoorRows.lean that lists a variable, with what it lists TIED to the program's text (the seventh form; the later family's looks); each row that meets fmt, with fmt's text TOLD by the authors' own Lean function (tested against real Go, not proved from fmt's source: count such statements apart). THE CARD IS WHAT COUNTS. Prove the row's statement (the work); the ties are given (YtpbjagjknaglgaaDoorTie.lean); close each card by the builder's one call (the guide's Derived/Test/ToyasCard.lean, 'card_holds'). Laid BY PROGRAM, IN A SANDBOX (cutbox-door.mjs). By AI agents, Wed Nov 11 2026. No macro, syntax, notation, axiom, sorry.
-/
import Derived.Test.YtpbjagjknaglgaaDoorRows
import GoSem.ClaimSeven
namespace Go.Proofs.YtpbjagjknaglgaaDoor
namespace Rows

/-- THE TIED CARD OF 'laws.FnExactTokenText'. -/
def fnExactTokenTextCard : Claim7 := { stood := { row := fnExactTokenTextRow, standIns := [], harness := (true, "93f0c3020ae45014e507bf7d8b8038945f63bb9be9bd03920545408e0e721808"), looks := false }, kinds := [], alts := [], laidByText := true, laidKinds := [.data, .data, .data], laidTests := true, laidLooks := .later }
def FnExactTokenTextCardSaid : Prop := Claim7.holds Tryd.pinned (.plain (OpenSpec.ofChange fnExactTokenTextSpec)) fnExactTokenTextCard

/-- THE TIED CARD OF 'laws.FnExactPrintTokens'. -/
def fnExactPrintTokensCard : Claim7 := { stood := { row := fnExactPrintTokensRow, standIns := [], harness := (true, "93f0c3020ae45014e507bf7d8b8038945f63bb9be9bd03920545408e0e721808"), looks := false }, kinds := [], alts := [], laidByText := true, laidKinds := [.data, .data, .data], laidTests := true, laidLooks := .later }
def FnExactPrintTokensCardSaid : Prop := Claim7.holds Tryd.pinned (.plain (OpenSpec.ofChange fnExactPrintTokensSpec)) fnExactPrintTokensCard

/-- THE TIED CARD OF 'laws.FnTextOps'. -/
def fnTextOpsCard : Claim7 := { stood := { row := fnTextOpsRow, standIns := [], harness := (true, "93f0c3020ae45014e507bf7d8b8038945f63bb9be9bd03920545408e0e721808"), looks := false }, kinds := [], alts := [], laidByText := true, laidKinds := [.data, .pinned], laidTests := true, laidLooks := .later }
def FnTextOpsCardSaid : Prop := Claim7.holds Tryd.pinned (.plain (OpenSpec.ofChange fnTextOpsSpec)) fnTextOpsCard

/-- THE TIED CARD OF 'laws.FnExactLogicalLines'. -/
def fnExactLogicalLinesCard : Claim7 := { stood := { row := fnExactLogicalLinesRow, standIns := [], harness := (true, "93f0c3020ae45014e507bf7d8b8038945f63bb9be9bd03920545408e0e721808"), looks := false }, kinds := [], alts := [], laidByText := true, laidKinds := [.data, .pinned], laidTests := true, laidLooks := .later }
def FnExactLogicalLinesCardSaid : Prop := Claim7.holds Tryd.pinned (.plain (OpenSpec.ofChange fnExactLogicalLinesSpec)) fnExactLogicalLinesCard

/-- THE TIED CARD OF 'laws.FnExactValueText'. -/
def fnExactValueTextCard : Claim7 := { stood := { row := fnExactValueTextRow, standIns := [], harness := (true, "93f0c3020ae45014e507bf7d8b8038945f63bb9be9bd03920545408e0e721808"), looks := false }, kinds := [], alts := [], laidByText := true, laidKinds := [.data, .data, .data, .data, .pinned], laidTests := true, laidLooks := .later }
def FnExactValueTextCardSaid : Prop := Claim7.holds Tryd.pinned (.plain (OpenSpec.ofChange fnExactValueTextSpec)) fnExactValueTextCard

/-- THE SECOND FORM's CARD OF 'laws.FnExactTokenText'. -/
def fnExactTokenTextUptoCard : Claim7 := { stood := { row := fnExactTokenTextUptoRow, standIns := [], harness := (true, "93f0c3020ae45014e507bf7d8b8038945f63bb9be9bd03920545408e0e721808"), looks := false }, kinds := [], alts := [], laidByText := true, laidKinds := [.data, .data, .data], laidTests := true, laidLooks := .later }
def FnExactTokenTextUptoCardSaid : Prop := Claim7.holds Tryd.pinned (.plain (OpenSpec.upto fnExactTokenTextSpec)) fnExactTokenTextUptoCard

/-- THE SECOND FORM's CARD OF 'laws.FnExactPrintTokens'. -/
def fnExactPrintTokensUptoCard : Claim7 := { stood := { row := fnExactPrintTokensUptoRow, standIns := [], harness := (true, "93f0c3020ae45014e507bf7d8b8038945f63bb9be9bd03920545408e0e721808"), looks := false }, kinds := [], alts := [], laidByText := true, laidKinds := [.data, .data, .data], laidTests := true, laidLooks := .later }
def FnExactPrintTokensUptoCardSaid : Prop := Claim7.holds Tryd.pinned (.plain (OpenSpec.upto fnExactPrintTokensSpec)) fnExactPrintTokensUptoCard

/-- THE SECOND FORM's CARD OF 'laws.FnTextOps'. -/
def fnTextOpsUptoCard : Claim7 := { stood := { row := fnTextOpsUptoRow, standIns := [], harness := (true, "93f0c3020ae45014e507bf7d8b8038945f63bb9be9bd03920545408e0e721808"), looks := false }, kinds := [], alts := [], laidByText := true, laidKinds := [.data, .pinned], laidTests := true, laidLooks := .later }
def FnTextOpsUptoCardSaid : Prop := Claim7.holds Tryd.pinned (.plain (OpenSpec.upto fnTextOpsSpec)) fnTextOpsUptoCard

/-- THE SECOND FORM's CARD OF 'laws.FnExactLogicalLines'. -/
def fnExactLogicalLinesUptoCard : Claim7 := { stood := { row := fnExactLogicalLinesUptoRow, standIns := [], harness := (true, "93f0c3020ae45014e507bf7d8b8038945f63bb9be9bd03920545408e0e721808"), looks := false }, kinds := [], alts := [], laidByText := true, laidKinds := [.data, .pinned], laidTests := true, laidLooks := .later }
def FnExactLogicalLinesUptoCardSaid : Prop := Claim7.holds Tryd.pinned (.plain (OpenSpec.upto fnExactLogicalLinesSpec)) fnExactLogicalLinesUptoCard

/-- THE SECOND FORM's CARD OF 'laws.FnExactValueText'. -/
def fnExactValueTextUptoCard : Claim7 := { stood := { row := fnExactValueTextUptoRow, standIns := [], harness := (true, "93f0c3020ae45014e507bf7d8b8038945f63bb9be9bd03920545408e0e721808"), looks := false }, kinds := [], alts := [], laidByText := true, laidKinds := [.data, .data, .data, .data, .pinned], laidTests := true, laidLooks := .later }
def FnExactValueTextUptoCardSaid : Prop := Claim7.holds Tryd.pinned (.plain (OpenSpec.upto fnExactValueTextSpec)) fnExactValueTextUptoCard
end Rows
end Go.Proofs.YtpbjagjknaglgaaDoor
