/-
  DERIVED. GIVEN WITH THE SEED: THE CARDS: each row of YtepaopekeidlmaaGreatDoorRows.lean that lists a variable, with what it lists TIED to the program's text (the seventh form; the later family's looks); each row that meets fmt, with fmt's text TOLD by the authors' own Lean function (tested against real Go, not proved from fmt's source: count such statements apart). THE CARD IS WHAT COUNTS. Prove the row's statement (the work); the ties are given (YtepaopekeidlmaaGreatDoorTie.lean); close each card by the builder's one call (the guide's Derived/Test/ToyasCard.lean, 'card_holds'). Laid BY PROGRAM, IN A SANDBOX (cutbox-door.mjs). By AI agents, Wed Nov 11 2026. No macro, syntax, notation, axiom, sorry.
-/
import Derived.Test.YtepaopekeidlmaaGreatDoorRows
import GoSem.ClaimSeven
namespace Go.Proofs.YtepaopekeidlmaaGreatDoor
namespace Rows

/-- THE TIED CARD OF 'versinelaw02.NetworkPlaces'. -/
def networkPlacesCard : Claim7 := { stood := { row := networkPlacesRow, standIns := [], harness := (true, "27ff0e32a0afa06cf8cba83cf1ad6de2f3bf6dbcc4d82d484a19128851492969"), looks := false }, kinds := [], alts := [], laidByText := true, laidKinds := [.data, .data, .data, .data, .data], laidTests := true, laidLooks := .later }
def NetworkPlacesCardSaid : Prop := Claim7.holds Tryz.pinned (.plain (OpenSpec.ofChange networkPlacesSpec)) networkPlacesCard

/-- THE TIED CARD OF 'versinelaw02.NetworkReaches'. -/
def networkReachesCard : Claim7 := { stood := { row := networkReachesRow, standIns := [], harness := (true, "27ff0e32a0afa06cf8cba83cf1ad6de2f3bf6dbcc4d82d484a19128851492969"), looks := false }, kinds := [], alts := [], laidByText := true, laidKinds := [.data, .data, .data, .data, .data], laidTests := true, laidLooks := .later }
def NetworkReachesCardSaid : Prop := Claim7.holds Tryz.pinned (.plain (OpenSpec.ofChange networkReachesSpec)) networkReachesCard

/-- THE TIED CARD OF 'versinelaw02.NetworkMaps'. -/
def networkMapsCard : Claim7 := { stood := { row := networkMapsRow, standIns := [], harness := (true, "27ff0e32a0afa06cf8cba83cf1ad6de2f3bf6dbcc4d82d484a19128851492969"), looks := false }, kinds := [], alts := [], laidByText := true, laidKinds := [.data, .data, .data, .data, .data], laidTests := true, laidLooks := .later }
def NetworkMapsCardSaid : Prop := Claim7.holds Tryz.pinned (.plain (OpenSpec.ofChange networkMapsSpec)) networkMapsCard

/-- THE TIED CARD OF 'versinelaw02.NetworkNamed'. -/
def networkNamedCard : Claim7 := { stood := { row := networkNamedRow, standIns := [], harness := (true, "27ff0e32a0afa06cf8cba83cf1ad6de2f3bf6dbcc4d82d484a19128851492969"), looks := false }, kinds := [], alts := [], laidByText := true, laidKinds := [.data, .data, .data, .data, .data], laidTests := true, laidLooks := .later }
def NetworkNamedCardSaid : Prop := Claim7.holds Tryz.pinned (.plain (OpenSpec.ofChange networkNamedSpec)) networkNamedCard

/-- THE TIED CARD OF 'versinelaw02.NetworkForms'. -/
def networkFormsCard : Claim7 := { stood := { row := networkFormsRow, standIns := [], harness := (true, "27ff0e32a0afa06cf8cba83cf1ad6de2f3bf6dbcc4d82d484a19128851492969"), looks := false }, kinds := [], alts := [], laidByText := true, laidKinds := [.data, .data, .data, .data, .data], laidTests := true, laidLooks := .later }
def NetworkFormsCardSaid : Prop := Claim7.holds Tryz.pinned (.plain (OpenSpec.ofChange networkFormsSpec)) networkFormsCard

/-- THE TIED CARD OF 'versinelaw02.NetworkDates'. -/
def networkDatesCard : Claim7 := { stood := { row := networkDatesRow, standIns := [], harness := (true, "27ff0e32a0afa06cf8cba83cf1ad6de2f3bf6dbcc4d82d484a19128851492969"), looks := false }, kinds := [], alts := [], laidByText := true, laidKinds := [.data, .data, .data, .data, .data], laidTests := true, laidLooks := .later }
def NetworkDatesCardSaid : Prop := Claim7.holds Tryz.pinned (.plain (OpenSpec.ofChange networkDatesSpec)) networkDatesCard

/-- THE TIED CARD OF 'versinelaw02.NetworkUndoes'. -/
def networkUndoesCard : Claim7 := { stood := { row := networkUndoesRow, standIns := [], harness := (true, "27ff0e32a0afa06cf8cba83cf1ad6de2f3bf6dbcc4d82d484a19128851492969"), looks := false }, kinds := [], alts := [], laidByText := true, laidKinds := [.data, .data, .data, .data, .data], laidTests := true, laidLooks := .later }
def NetworkUndoesCardSaid : Prop := Claim7.holds Tryz.pinned (.plain (OpenSpec.ofChange networkUndoesSpec)) networkUndoesCard

/-- THE TIED CARD OF 'versinelaw02.NetworkSince'. -/
def networkSinceCard : Claim7 := { stood := { row := networkSinceRow, standIns := [], harness := (true, "27ff0e32a0afa06cf8cba83cf1ad6de2f3bf6dbcc4d82d484a19128851492969"), looks := false }, kinds := [], alts := [], laidByText := true, laidKinds := [.data, .data, .data, .data, .data], laidTests := true, laidLooks := .later }
def NetworkSinceCardSaid : Prop := Claim7.holds Tryz.pinned (.plain (OpenSpec.ofChange networkSinceSpec)) networkSinceCard

/-- THE TIED CARD OF 'versinelaw02.NetworkWays'. -/
def networkWaysCard : Claim7 := { stood := { row := networkWaysRow, standIns := [], harness := (true, "27ff0e32a0afa06cf8cba83cf1ad6de2f3bf6dbcc4d82d484a19128851492969"), looks := false }, kinds := [], alts := [], laidByText := true, laidKinds := [.data, .data, .data, .data, .data], laidTests := true, laidLooks := .later }
def NetworkWaysCardSaid : Prop := Claim7.holds Tryz.pinned (.plain (OpenSpec.ofChange networkWaysSpec)) networkWaysCard

/-- THE TIED CARD OF 'versinelaw02.NetworkLeast'. -/
def networkLeastCard : Claim7 := { stood := { row := networkLeastRow, standIns := [], harness := (true, "27ff0e32a0afa06cf8cba83cf1ad6de2f3bf6dbcc4d82d484a19128851492969"), looks := false }, kinds := [], alts := [], laidByText := true, laidKinds := [.data, .data, .data, .data, .data], laidTests := true, laidLooks := .later }
def NetworkLeastCardSaid : Prop := Claim7.holds Tryz.pinned (.plain (OpenSpec.ofChange networkLeastSpec)) networkLeastCard

/-- THE TIED CARD OF 'versinelaw02.NetworkPosts'. -/
def networkPostsCard : Claim7 := { stood := { row := networkPostsRow, standIns := [], harness := (true, "27ff0e32a0afa06cf8cba83cf1ad6de2f3bf6dbcc4d82d484a19128851492969"), looks := false }, kinds := [], alts := [], laidByText := true, laidKinds := [.data, .data, .data, .data, .data], laidTests := true, laidLooks := .later }
def NetworkPostsCardSaid : Prop := Claim7.holds Tryz.pinned (.plain (OpenSpec.ofChange networkPostsSpec)) networkPostsCard

/-- THE TIED CARD OF 'versinelaw02.NetworkTexts'. -/
def networkTextsCard : Claim7 := { stood := { row := networkTextsRow, standIns := [], harness := (true, "27ff0e32a0afa06cf8cba83cf1ad6de2f3bf6dbcc4d82d484a19128851492969"), looks := false }, kinds := [], alts := [], laidByText := true, laidKinds := [.data, .data, .data, .data, .data, .data, .pinned], laidTests := true, laidLooks := .later }
def NetworkTextsCardSaid : Prop := Claim7.holds Tryz.pinned (.plain (OpenSpec.ofChange networkTextsSpec)) networkTextsCard

/-- THE TIED CARD OF 'versinelaw02.NetworkBack'. -/
def networkBackCard : Claim7 := { stood := { row := networkBackRow, standIns := [], harness := (true, "27ff0e32a0afa06cf8cba83cf1ad6de2f3bf6dbcc4d82d484a19128851492969"), looks := false }, kinds := [], alts := [], laidByText := true, laidKinds := [.data, .data, .data, .data, .data, .data, .pinned], laidTests := true, laidLooks := .later }
def NetworkBackCardSaid : Prop := Claim7.holds Tryz.pinned (.plain (OpenSpec.ofChange networkBackSpec)) networkBackCard

/-- THE SECOND FORM's CARD OF 'versinelaw02.NetworkPlaces'. -/
def networkPlacesUptoCard : Claim7 := { stood := { row := networkPlacesUptoRow, standIns := [], harness := (true, "27ff0e32a0afa06cf8cba83cf1ad6de2f3bf6dbcc4d82d484a19128851492969"), looks := false }, kinds := [], alts := [], laidByText := true, laidKinds := [.data, .data, .data, .data, .data], laidTests := true, laidLooks := .later }
def NetworkPlacesUptoCardSaid : Prop := Claim7.holds Tryz.pinned (.plain (OpenSpec.upto networkPlacesSpec)) networkPlacesUptoCard

/-- THE SECOND FORM's CARD OF 'versinelaw02.NetworkReaches'. -/
def networkReachesUptoCard : Claim7 := { stood := { row := networkReachesUptoRow, standIns := [], harness := (true, "27ff0e32a0afa06cf8cba83cf1ad6de2f3bf6dbcc4d82d484a19128851492969"), looks := false }, kinds := [], alts := [], laidByText := true, laidKinds := [.data, .data, .data, .data, .data], laidTests := true, laidLooks := .later }
def NetworkReachesUptoCardSaid : Prop := Claim7.holds Tryz.pinned (.plain (OpenSpec.upto networkReachesSpec)) networkReachesUptoCard

/-- THE SECOND FORM's CARD OF 'versinelaw02.NetworkMaps'. -/
def networkMapsUptoCard : Claim7 := { stood := { row := networkMapsUptoRow, standIns := [], harness := (true, "27ff0e32a0afa06cf8cba83cf1ad6de2f3bf6dbcc4d82d484a19128851492969"), looks := false }, kinds := [], alts := [], laidByText := true, laidKinds := [.data, .data, .data, .data, .data], laidTests := true, laidLooks := .later }
def NetworkMapsUptoCardSaid : Prop := Claim7.holds Tryz.pinned (.plain (OpenSpec.upto networkMapsSpec)) networkMapsUptoCard

/-- THE SECOND FORM's CARD OF 'versinelaw02.NetworkNamed'. -/
def networkNamedUptoCard : Claim7 := { stood := { row := networkNamedUptoRow, standIns := [], harness := (true, "27ff0e32a0afa06cf8cba83cf1ad6de2f3bf6dbcc4d82d484a19128851492969"), looks := false }, kinds := [], alts := [], laidByText := true, laidKinds := [.data, .data, .data, .data, .data], laidTests := true, laidLooks := .later }
def NetworkNamedUptoCardSaid : Prop := Claim7.holds Tryz.pinned (.plain (OpenSpec.upto networkNamedSpec)) networkNamedUptoCard

/-- THE SECOND FORM's CARD OF 'versinelaw02.NetworkForms'. -/
def networkFormsUptoCard : Claim7 := { stood := { row := networkFormsUptoRow, standIns := [], harness := (true, "27ff0e32a0afa06cf8cba83cf1ad6de2f3bf6dbcc4d82d484a19128851492969"), looks := false }, kinds := [], alts := [], laidByText := true, laidKinds := [.data, .data, .data, .data, .data], laidTests := true, laidLooks := .later }
def NetworkFormsUptoCardSaid : Prop := Claim7.holds Tryz.pinned (.plain (OpenSpec.upto networkFormsSpec)) networkFormsUptoCard

/-- THE SECOND FORM's CARD OF 'versinelaw02.NetworkDates'. -/
def networkDatesUptoCard : Claim7 := { stood := { row := networkDatesUptoRow, standIns := [], harness := (true, "27ff0e32a0afa06cf8cba83cf1ad6de2f3bf6dbcc4d82d484a19128851492969"), looks := false }, kinds := [], alts := [], laidByText := true, laidKinds := [.data, .data, .data, .data, .data], laidTests := true, laidLooks := .later }
def NetworkDatesUptoCardSaid : Prop := Claim7.holds Tryz.pinned (.plain (OpenSpec.upto networkDatesSpec)) networkDatesUptoCard

/-- THE SECOND FORM's CARD OF 'versinelaw02.NetworkUndoes'. -/
def networkUndoesUptoCard : Claim7 := { stood := { row := networkUndoesUptoRow, standIns := [], harness := (true, "27ff0e32a0afa06cf8cba83cf1ad6de2f3bf6dbcc4d82d484a19128851492969"), looks := false }, kinds := [], alts := [], laidByText := true, laidKinds := [.data, .data, .data, .data, .data], laidTests := true, laidLooks := .later }
def NetworkUndoesUptoCardSaid : Prop := Claim7.holds Tryz.pinned (.plain (OpenSpec.upto networkUndoesSpec)) networkUndoesUptoCard

/-- THE SECOND FORM's CARD OF 'versinelaw02.NetworkSince'. -/
def networkSinceUptoCard : Claim7 := { stood := { row := networkSinceUptoRow, standIns := [], harness := (true, "27ff0e32a0afa06cf8cba83cf1ad6de2f3bf6dbcc4d82d484a19128851492969"), looks := false }, kinds := [], alts := [], laidByText := true, laidKinds := [.data, .data, .data, .data, .data], laidTests := true, laidLooks := .later }
def NetworkSinceUptoCardSaid : Prop := Claim7.holds Tryz.pinned (.plain (OpenSpec.upto networkSinceSpec)) networkSinceUptoCard

/-- THE SECOND FORM's CARD OF 'versinelaw02.NetworkWays'. -/
def networkWaysUptoCard : Claim7 := { stood := { row := networkWaysUptoRow, standIns := [], harness := (true, "27ff0e32a0afa06cf8cba83cf1ad6de2f3bf6dbcc4d82d484a19128851492969"), looks := false }, kinds := [], alts := [], laidByText := true, laidKinds := [.data, .data, .data, .data, .data], laidTests := true, laidLooks := .later }
def NetworkWaysUptoCardSaid : Prop := Claim7.holds Tryz.pinned (.plain (OpenSpec.upto networkWaysSpec)) networkWaysUptoCard

/-- THE SECOND FORM's CARD OF 'versinelaw02.NetworkLeast'. -/
def networkLeastUptoCard : Claim7 := { stood := { row := networkLeastUptoRow, standIns := [], harness := (true, "27ff0e32a0afa06cf8cba83cf1ad6de2f3bf6dbcc4d82d484a19128851492969"), looks := false }, kinds := [], alts := [], laidByText := true, laidKinds := [.data, .data, .data, .data, .data], laidTests := true, laidLooks := .later }
def NetworkLeastUptoCardSaid : Prop := Claim7.holds Tryz.pinned (.plain (OpenSpec.upto networkLeastSpec)) networkLeastUptoCard

/-- THE SECOND FORM's CARD OF 'versinelaw02.NetworkPosts'. -/
def networkPostsUptoCard : Claim7 := { stood := { row := networkPostsUptoRow, standIns := [], harness := (true, "27ff0e32a0afa06cf8cba83cf1ad6de2f3bf6dbcc4d82d484a19128851492969"), looks := false }, kinds := [], alts := [], laidByText := true, laidKinds := [.data, .data, .data, .data, .data], laidTests := true, laidLooks := .later }
def NetworkPostsUptoCardSaid : Prop := Claim7.holds Tryz.pinned (.plain (OpenSpec.upto networkPostsSpec)) networkPostsUptoCard

/-- THE SECOND FORM's CARD OF 'versinelaw02.NetworkTexts'. -/
def networkTextsUptoCard : Claim7 := { stood := { row := networkTextsUptoRow, standIns := [], harness := (true, "27ff0e32a0afa06cf8cba83cf1ad6de2f3bf6dbcc4d82d484a19128851492969"), looks := false }, kinds := [], alts := [], laidByText := true, laidKinds := [.data, .data, .data, .data, .data, .data, .pinned], laidTests := true, laidLooks := .later }
def NetworkTextsUptoCardSaid : Prop := Claim7.holds Tryz.pinned (.plain (OpenSpec.upto networkTextsSpec)) networkTextsUptoCard

/-- THE SECOND FORM's CARD OF 'versinelaw02.NetworkBack'. -/
def networkBackUptoCard : Claim7 := { stood := { row := networkBackUptoRow, standIns := [], harness := (true, "27ff0e32a0afa06cf8cba83cf1ad6de2f3bf6dbcc4d82d484a19128851492969"), looks := false }, kinds := [], alts := [], laidByText := true, laidKinds := [.data, .data, .data, .data, .data, .data, .pinned], laidTests := true, laidLooks := .later }
def NetworkBackUptoCardSaid : Prop := Claim7.holds Tryz.pinned (.plain (OpenSpec.upto networkBackSpec)) networkBackUptoCard
end Rows
end Go.Proofs.YtepaopekeidlmaaGreatDoor
