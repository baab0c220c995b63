/-
  DERIVED. GIVEN WITH THE SEED: THE CARDS: each row of YtlcllofghiialaaDoorRows.lean that lists a variable, with what it lists TIED to the program's text (the seventh form; the later family's looks); each row that meets fmt, with fmt's text TOLD by the authors' own Lean function (tested against real Go, not proved from fmt's source: count such statements apart). THE CARD IS WHAT COUNTS. Prove the row's statement (the work); the ties are given (YtlcllofghiialaaDoorTie.lean); close each card by the builder's one call (the guide's Derived/Test/ToyasCard.lean, 'card_holds'). Laid BY PROGRAM, IN A SANDBOX (cutbox-door.mjs). By AI agents, Wed Nov 11 2026. No macro, syntax, notation, axiom, sorry.
-/
import Derived.Test.YtlcllofghiialaaDoorRows
import GoSem.ClaimSeven
namespace Go.Proofs.YtlcllofghiialaaDoor
namespace Rows

/-- THE TIED CARD OF 'laws.FnExactSealImage'. -/
def fnExactSealImageCard : Claim7 := { stood := { row := fnExactSealImageRow, standIns := [], harness := (true, "c87b3eb3c0969177b4a68cfc6b3a3500e302ca49b93b36f2e2571768bf3bc5bf"), looks := true }, kinds := [], alts := [], laidByText := true, laidKinds := [.data, .data, .data], laidTests := true, laidLooks := .later }
def FnExactSealImageCardSaid : Prop := Claim7.holds Tryd.pinned (.plain (OpenSpec.ofChange fnExactSealImageSpec)) fnExactSealImageCard

/-- THE TIED CARD OF 'laws.FnExactOpenImage'. -/
def fnExactOpenImageCard : Claim7 := { stood := { row := fnExactOpenImageRow, standIns := [], harness := (true, "c87b3eb3c0969177b4a68cfc6b3a3500e302ca49b93b36f2e2571768bf3bc5bf"), looks := true }, kinds := [], alts := [], laidByText := true, laidKinds := [.data, .data, .data, .sentinel, .sentinel], laidTests := true, laidLooks := .later }
def FnExactOpenImageCardSaid : Prop := Claim7.holds Tryd.pinned (.plain (OpenSpec.ofChange fnExactOpenImageSpec)) fnExactOpenImageCard

/-- THE TIED CARD OF 'laws.FnExactCaptureText'. -/
def fnExactCaptureTextCard : Claim7 := { stood := { row := fnExactCaptureTextRow, standIns := [], harness := (true, "c87b3eb3c0969177b4a68cfc6b3a3500e302ca49b93b36f2e2571768bf3bc5bf"), looks := true }, kinds := [], alts := [], laidByText := true, laidKinds := [.data, .data, .data, .data, .pinned], laidTests := true, laidLooks := .later }
def FnExactCaptureTextCardSaid : Prop := Claim7.holds Tryd.pinned (.plain (OpenSpec.ofChange fnExactCaptureTextSpec)) fnExactCaptureTextCard

/-- THE TIED CARD OF 'laws.FnExactFieldsText'. -/
def fnExactFieldsTextCard : Claim7 := { stood := { row := fnExactFieldsTextRow, standIns := [], harness := (true, "c87b3eb3c0969177b4a68cfc6b3a3500e302ca49b93b36f2e2571768bf3bc5bf"), looks := true }, kinds := [], alts := [], laidByText := true, laidKinds := [.data, .data, .data, .data, .pinned], laidTests := true, laidLooks := .later }
def FnExactFieldsTextCardSaid : Prop := Claim7.holds Tryd.pinned (.plain (OpenSpec.ofChange fnExactFieldsTextSpec)) fnExactFieldsTextCard

/-- THE SECOND FORM's CARD OF 'laws.FnExactSealImage'. -/
def fnExactSealImageUptoCard : Claim7 := { stood := { row := fnExactSealImageUptoRow, standIns := [], harness := (true, "c87b3eb3c0969177b4a68cfc6b3a3500e302ca49b93b36f2e2571768bf3bc5bf"), looks := true }, kinds := [], alts := [], laidByText := true, laidKinds := [.data, .data, .data], laidTests := true, laidLooks := .later }
def FnExactSealImageUptoCardSaid : Prop := Claim7.holds Tryd.pinned (.plain (OpenSpec.upto fnExactSealImageSpec)) fnExactSealImageUptoCard

/-- THE SECOND FORM's CARD OF 'laws.FnExactOpenImage'. -/
def fnExactOpenImageUptoCard : Claim7 := { stood := { row := fnExactOpenImageUptoRow, standIns := [], harness := (true, "c87b3eb3c0969177b4a68cfc6b3a3500e302ca49b93b36f2e2571768bf3bc5bf"), looks := true }, kinds := [], alts := [], laidByText := true, laidKinds := [.data, .data, .data, .sentinel, .sentinel], laidTests := true, laidLooks := .later }
def FnExactOpenImageUptoCardSaid : Prop := Claim7.holds Tryd.pinned (.plain (OpenSpec.upto fnExactOpenImageSpec)) fnExactOpenImageUptoCard

/-- THE SECOND FORM's CARD OF 'laws.FnExactCaptureText'. -/
def fnExactCaptureTextUptoCard : Claim7 := { stood := { row := fnExactCaptureTextUptoRow, standIns := [], harness := (true, "c87b3eb3c0969177b4a68cfc6b3a3500e302ca49b93b36f2e2571768bf3bc5bf"), looks := true }, kinds := [], alts := [], laidByText := true, laidKinds := [.data, .data, .data, .data, .pinned], laidTests := true, laidLooks := .later }
def FnExactCaptureTextUptoCardSaid : Prop := Claim7.holds Tryd.pinned (.plain (OpenSpec.upto fnExactCaptureTextSpec)) fnExactCaptureTextUptoCard

/-- THE SECOND FORM's CARD OF 'laws.FnExactFieldsText'. -/
def fnExactFieldsTextUptoCard : Claim7 := { stood := { row := fnExactFieldsTextUptoRow, standIns := [], harness := (true, "c87b3eb3c0969177b4a68cfc6b3a3500e302ca49b93b36f2e2571768bf3bc5bf"), looks := true }, kinds := [], alts := [], laidByText := true, laidKinds := [.data, .data, .data, .data, .pinned], laidTests := true, laidLooks := .later }
def FnExactFieldsTextUptoCardSaid : Prop := Claim7.holds Tryd.pinned (.plain (OpenSpec.upto fnExactFieldsTextSpec)) fnExactFieldsTextUptoCard
end Rows
end Go.Proofs.YtlcllofghiialaaDoor
