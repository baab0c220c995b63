/-
  DERIVED. GIVEN WITH THE SEED: THE CARDS: each row of YtjmojijopammjaaDoorRows.lean that lists a variable, with what it lists TIED to the program's text (the seventh form; the later family's looks); each row that meets fmt, with fmt's text TOLD by the authors' own Lean function (tested against real Go, not proved from fmt's source: count such statements apart). THE CARD IS WHAT COUNTS. Prove the row's statement (the work); the ties are given (YtjmojijopammjaaDoorTie.lean); close each card by the builder's one call (the guide's Derived/Test/ToyasCard.lean, 'card_holds'). Laid BY PROGRAM, IN A SANDBOX (cutbox-door.mjs). By AI agents, Wed Nov 11 2026. No macro, syntax, notation, axiom, sorry.
-/
import Derived.Test.YtjmojijopammjaaDoorRows
import GoSem.ClaimSeven
namespace Go.Proofs.YtjmojijopammjaaDoor
namespace Rows

/-- THE TIED CARD OF 'laws.FnExactCaptureText'. -/
def fnExactCaptureTextCard : Claim7 := { stood := { row := fnExactCaptureTextRow, standIns := [], harness := (true, "009ddd125d77f3f3dc10b01a0c8816e420d40c88390cc2abf873336036509d56"), looks := true }, kinds := [], alts := [], laidByText := true, laidKinds := [.data, .data, .data, .data, .pinned], laidTests := true, laidLooks := .later }
def FnExactCaptureTextCardSaid : Prop := Claim7.holds Tryd.pinned (.plain (OpenSpec.ofChange fnExactCaptureTextSpec)) fnExactCaptureTextCard

/-- THE TIED CARD OF 'laws.FnExactFieldsText'. -/
def fnExactFieldsTextCard : Claim7 := { stood := { row := fnExactFieldsTextRow, standIns := [], harness := (true, "009ddd125d77f3f3dc10b01a0c8816e420d40c88390cc2abf873336036509d56"), looks := true }, kinds := [], alts := [], laidByText := true, laidKinds := [.data, .data, .data, .data, .pinned], laidTests := true, laidLooks := .later }
def FnExactFieldsTextCardSaid : Prop := Claim7.holds Tryd.pinned (.plain (OpenSpec.ofChange fnExactFieldsTextSpec)) fnExactFieldsTextCard

/-- THE TIED CARD OF 'laws.FnExactTraceText'. -/
def fnExactTraceTextCard : Claim7 := { stood := { row := fnExactTraceTextRow, standIns := [], harness := (true, "009ddd125d77f3f3dc10b01a0c8816e420d40c88390cc2abf873336036509d56"), looks := true }, kinds := [], alts := [], laidByText := true, laidKinds := [.data, .data, .data, .data, .pinned], laidTests := true, laidLooks := .later }
def FnExactTraceTextCardSaid : Prop := Claim7.holds Tryd.pinned (.plain (OpenSpec.ofChange fnExactTraceTextSpec)) fnExactTraceTextCard

/-- THE TIED CARD OF 'laws.FnExactOpenImage'. -/
def fnExactOpenImageCard : Claim7 := { stood := { row := fnExactOpenImageRow, standIns := [], harness := (true, "009ddd125d77f3f3dc10b01a0c8816e420d40c88390cc2abf873336036509d56"), looks := true }, kinds := [], alts := [], laidByText := true, laidKinds := [.data, .data, .data, .sentinel, .sentinel], laidTests := true, laidLooks := .later }
def FnExactOpenImageCardSaid : Prop := Claim7.holds Tryd.pinned (.plain (OpenSpec.ofChange fnExactOpenImageSpec)) fnExactOpenImageCard

/-- THE TIED CARD OF 'laws.FnExactLogicalLines'. -/
def fnExactLogicalLinesCard : Claim7 := { stood := { row := fnExactLogicalLinesRow, standIns := [], harness := (true, "009ddd125d77f3f3dc10b01a0c8816e420d40c88390cc2abf873336036509d56"), looks := true }, kinds := [], alts := [], laidByText := true, laidKinds := [.data, .pinned], laidTests := true, laidLooks := .later }
def FnExactLogicalLinesCardSaid : Prop := Claim7.holds Tryd.pinned (.plain (OpenSpec.ofChange fnExactLogicalLinesSpec)) fnExactLogicalLinesCard

/-- THE TIED CARD OF 'laws.FnTextOps'. -/
def fnTextOpsCard : Claim7 := { stood := { row := fnTextOpsRow, standIns := [], harness := (true, "009ddd125d77f3f3dc10b01a0c8816e420d40c88390cc2abf873336036509d56"), looks := true }, kinds := [], alts := [], laidByText := true, laidKinds := [.data, .pinned], laidTests := true, laidLooks := .later }
def FnTextOpsCardSaid : Prop := Claim7.holds Tryd.pinned (.plain (OpenSpec.ofChange fnTextOpsSpec)) fnTextOpsCard

/-- THE SECOND FORM's CARD OF 'laws.FnExactCaptureText'. -/
def fnExactCaptureTextUptoCard : Claim7 := { stood := { row := fnExactCaptureTextUptoRow, standIns := [], harness := (true, "009ddd125d77f3f3dc10b01a0c8816e420d40c88390cc2abf873336036509d56"), looks := true }, kinds := [], alts := [], laidByText := true, laidKinds := [.data, .data, .data, .data, .pinned], laidTests := true, laidLooks := .later }
def FnExactCaptureTextUptoCardSaid : Prop := Claim7.holds Tryd.pinned (.plain (OpenSpec.upto fnExactCaptureTextSpec)) fnExactCaptureTextUptoCard

/-- THE SECOND FORM's CARD OF 'laws.FnExactFieldsText'. -/
def fnExactFieldsTextUptoCard : Claim7 := { stood := { row := fnExactFieldsTextUptoRow, standIns := [], harness := (true, "009ddd125d77f3f3dc10b01a0c8816e420d40c88390cc2abf873336036509d56"), looks := true }, kinds := [], alts := [], laidByText := true, laidKinds := [.data, .data, .data, .data, .pinned], laidTests := true, laidLooks := .later }
def FnExactFieldsTextUptoCardSaid : Prop := Claim7.holds Tryd.pinned (.plain (OpenSpec.upto fnExactFieldsTextSpec)) fnExactFieldsTextUptoCard

/-- THE SECOND FORM's CARD OF 'laws.FnExactTraceText'. -/
def fnExactTraceTextUptoCard : Claim7 := { stood := { row := fnExactTraceTextUptoRow, standIns := [], harness := (true, "009ddd125d77f3f3dc10b01a0c8816e420d40c88390cc2abf873336036509d56"), looks := true }, kinds := [], alts := [], laidByText := true, laidKinds := [.data, .data, .data, .data, .pinned], laidTests := true, laidLooks := .later }
def FnExactTraceTextUptoCardSaid : Prop := Claim7.holds Tryd.pinned (.plain (OpenSpec.upto fnExactTraceTextSpec)) fnExactTraceTextUptoCard

/-- THE SECOND FORM's CARD OF 'laws.FnExactOpenImage'. -/
def fnExactOpenImageUptoCard : Claim7 := { stood := { row := fnExactOpenImageUptoRow, standIns := [], harness := (true, "009ddd125d77f3f3dc10b01a0c8816e420d40c88390cc2abf873336036509d56"), looks := true }, kinds := [], alts := [], laidByText := true, laidKinds := [.data, .data, .data, .sentinel, .sentinel], laidTests := true, laidLooks := .later }
def FnExactOpenImageUptoCardSaid : Prop := Claim7.holds Tryd.pinned (.plain (OpenSpec.upto fnExactOpenImageSpec)) fnExactOpenImageUptoCard

/-- THE SECOND FORM's CARD OF 'laws.FnExactLogicalLines'. -/
def fnExactLogicalLinesUptoCard : Claim7 := { stood := { row := fnExactLogicalLinesUptoRow, standIns := [], harness := (true, "009ddd125d77f3f3dc10b01a0c8816e420d40c88390cc2abf873336036509d56"), looks := true }, kinds := [], alts := [], laidByText := true, laidKinds := [.data, .pinned], laidTests := true, laidLooks := .later }
def FnExactLogicalLinesUptoCardSaid : Prop := Claim7.holds Tryd.pinned (.plain (OpenSpec.upto fnExactLogicalLinesSpec)) fnExactLogicalLinesUptoCard

/-- THE SECOND FORM's CARD OF 'laws.FnTextOps'. -/
def fnTextOpsUptoCard : Claim7 := { stood := { row := fnTextOpsUptoRow, standIns := [], harness := (true, "009ddd125d77f3f3dc10b01a0c8816e420d40c88390cc2abf873336036509d56"), looks := true }, kinds := [], alts := [], laidByText := true, laidKinds := [.data, .pinned], laidTests := true, laidLooks := .later }
def FnTextOpsUptoCardSaid : Prop := Claim7.holds Tryd.pinned (.plain (OpenSpec.upto fnTextOpsSpec)) fnTextOpsUptoCard
end Rows
end Go.Proofs.YtjmojijopammjaaDoor
