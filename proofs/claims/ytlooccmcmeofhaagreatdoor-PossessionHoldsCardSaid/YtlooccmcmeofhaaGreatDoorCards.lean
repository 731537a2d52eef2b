/-
  DERIVED. GIVEN WITH THE SEED: THE CARDS: each row of YtlooccmcmeofhaaGreatDoorRows.lean that lists a variable, with what it lists TIED to the program's text (the seventh form; the later family's looks); each row that meets fmt, with fmt's text TOLD by the authors' own Lean function (tested against real Go, not proved from fmt's source: count such statements apart). THE CARD IS WHAT COUNTS. Prove the row's statement (the work); the ties are given (YtlooccmcmeofhaaGreatDoorTie.lean); close each card by the builder's one call (the guide's Derived/Test/ToyasCard.lean, 'card_holds'). Laid BY PROGRAM, IN A SANDBOX (cutbox-door.mjs). By AI agents, Wed Nov 11 2026. No macro, syntax, notation, axiom, sorry.
-/
import Derived.Test.YtlooccmcmeofhaaGreatDoorRows
import GoSem.ClaimSeven
namespace Go.Proofs.YtlooccmcmeofhaaGreatDoor
namespace Rows

/-- THE TIED CARD OF 'versinelaw10.PossessionStories'. -/
def possessionStoriesCard : Claim7 := { stood := { row := possessionStoriesRow, standIns := [], harness := (true, "45d16f3ebecc0217c453ebacf3e70b4aad554e85e1a8fdab1dea6283be739f79"), looks := false }, kinds := [], alts := [], laidByText := true, laidKinds := [.data, .data, .data, .data, .pinned], laidTests := true, laidLooks := .later }
def PossessionStoriesCardSaid : Prop := Claim7.holds Tryz.pinned (.plain (OpenSpec.ofChange possessionStoriesSpec)) possessionStoriesCard

/-- THE TIED CARD OF 'versinelaw10.PossessionSafe'. -/
def possessionSafeCard : Claim7 := { stood := { row := possessionSafeRow, standIns := [], harness := (true, "45d16f3ebecc0217c453ebacf3e70b4aad554e85e1a8fdab1dea6283be739f79"), looks := false }, kinds := [], alts := [], laidByText := true, laidKinds := [.data, .data, .data, .data, .pinned], laidTests := true, laidLooks := .later }
def PossessionSafeCardSaid : Prop := Claim7.holds Tryz.pinned (.plain (OpenSpec.ofChange possessionSafeSpec)) possessionSafeCard

/-- THE TIED CARD OF 'versinelaw10.PossessionHolds'. -/
def possessionHoldsCard : Claim7 := { stood := { row := possessionHoldsRow, standIns := [], harness := (true, "45d16f3ebecc0217c453ebacf3e70b4aad554e85e1a8fdab1dea6283be739f79"), looks := false }, kinds := [], alts := [], laidByText := true, laidKinds := [.data, .data, .data, .data, .pinned], laidTests := true, laidLooks := .later }
def PossessionHoldsCardSaid : Prop := Claim7.holds Tryz.pinned (.plain (OpenSpec.ofChange possessionHoldsSpec)) possessionHoldsCard

/-- THE TIED CARD OF 'versinelaw10.PossessionLogs'. -/
def possessionLogsCard : Claim7 := { stood := { row := possessionLogsRow, standIns := [], harness := (true, "45d16f3ebecc0217c453ebacf3e70b4aad554e85e1a8fdab1dea6283be739f79"), looks := false }, kinds := [], alts := [], laidByText := true, laidKinds := [.data, .data, .data, .data, .pinned], laidTests := true, laidLooks := .later }
def PossessionLogsCardSaid : Prop := Claim7.holds Tryz.pinned (.plain (OpenSpec.ofChange possessionLogsSpec)) possessionLogsCard

/-- THE TIED CARD OF 'versinelaw10.PossessionSessions'. -/
def possessionSessionsCard : Claim7 := { stood := { row := possessionSessionsRow, standIns := [], harness := (true, "45d16f3ebecc0217c453ebacf3e70b4aad554e85e1a8fdab1dea6283be739f79"), looks := false }, kinds := [], alts := [], laidByText := true, laidKinds := [.data, .data, .data, .data, .pinned], laidTests := true, laidLooks := .later }
def PossessionSessionsCardSaid : Prop := Claim7.holds Tryz.pinned (.plain (OpenSpec.ofChange possessionSessionsSpec)) possessionSessionsCard

/-- THE TIED CARD OF 'versinelaw10.PossessionTracks'. -/
def possessionTracksCard : Claim7 := { stood := { row := possessionTracksRow, standIns := [], harness := (true, "45d16f3ebecc0217c453ebacf3e70b4aad554e85e1a8fdab1dea6283be739f79"), looks := false }, kinds := [], alts := [], laidByText := true, laidKinds := [.data, .data, .data, .data, .pinned], laidTests := true, laidLooks := .later }
def PossessionTracksCardSaid : Prop := Claim7.holds Tryz.pinned (.plain (OpenSpec.ofChange possessionTracksSpec)) possessionTracksCard

/-- THE TIED CARD OF 'versinelaw10.PossessionTurns'. -/
def possessionTurnsCard : Claim7 := { stood := { row := possessionTurnsRow, standIns := [], harness := (true, "45d16f3ebecc0217c453ebacf3e70b4aad554e85e1a8fdab1dea6283be739f79"), looks := false }, kinds := [], alts := [], laidByText := true, laidKinds := [.data, .data, .data, .data, .pinned], laidTests := true, laidLooks := .later }
def PossessionTurnsCardSaid : Prop := Claim7.holds Tryz.pinned (.plain (OpenSpec.ofChange possessionTurnsSpec)) possessionTurnsCard

/-- THE TIED CARD OF 'versinelaw10.PossessionEvents'. -/
def possessionEventsCard : Claim7 := { stood := { row := possessionEventsRow, standIns := [], harness := (true, "45d16f3ebecc0217c453ebacf3e70b4aad554e85e1a8fdab1dea6283be739f79"), looks := false }, kinds := [], alts := [], laidByText := true, laidKinds := [.data, .data, .data, .data, .pinned], laidTests := true, laidLooks := .later }
def PossessionEventsCardSaid : Prop := Claim7.holds Tryz.pinned (.plain (OpenSpec.ofChange possessionEventsSpec)) possessionEventsCard

/-- THE TIED CARD OF 'versinelaw10.PossessionTorn'. -/
def possessionTornCard : Claim7 := { stood := { row := possessionTornRow, standIns := [], harness := (true, "45d16f3ebecc0217c453ebacf3e70b4aad554e85e1a8fdab1dea6283be739f79"), looks := false }, kinds := [], alts := [], laidByText := true, laidKinds := [.data, .data, .data, .data, .pinned], laidTests := true, laidLooks := .later }
def PossessionTornCardSaid : Prop := Claim7.holds Tryz.pinned (.plain (OpenSpec.ofChange possessionTornSpec)) possessionTornCard

/-- THE TIED CARD OF 'versinelaw10.PossessionReady'. -/
def possessionReadyCard : Claim7 := { stood := { row := possessionReadyRow, standIns := [], harness := (true, "45d16f3ebecc0217c453ebacf3e70b4aad554e85e1a8fdab1dea6283be739f79"), looks := false }, kinds := [], alts := [], laidByText := true, laidKinds := [.data, .data, .data, .data, .pinned], laidTests := true, laidLooks := .later }
def PossessionReadyCardSaid : Prop := Claim7.holds Tryz.pinned (.plain (OpenSpec.ofChange possessionReadySpec)) possessionReadyCard

/-- THE TIED CARD OF 'versinetop.TopShovelInquiry'. -/
def topShovelInquiryCard : Claim7 := { stood := { row := topShovelInquiryRow, standIns := [], harness := (true, "45d16f3ebecc0217c453ebacf3e70b4aad554e85e1a8fdab1dea6283be739f79"), looks := false }, kinds := [], alts := [], laidByText := true, laidKinds := [.data, .data, .data, .data, .pinned], laidTests := true, laidLooks := .later }
def TopShovelInquiryCardSaid : Prop := Claim7.holds Tryz.pinned (.plain (OpenSpec.ofChange topShovelInquirySpec)) topShovelInquiryCard

/-- THE SECOND FORM's CARD OF 'versinelaw10.PossessionStories'. -/
def possessionStoriesUptoCard : Claim7 := { stood := { row := possessionStoriesUptoRow, standIns := [], harness := (true, "45d16f3ebecc0217c453ebacf3e70b4aad554e85e1a8fdab1dea6283be739f79"), looks := false }, kinds := [], alts := [], laidByText := true, laidKinds := [.data, .data, .data, .data, .pinned], laidTests := true, laidLooks := .later }
def PossessionStoriesUptoCardSaid : Prop := Claim7.holds Tryz.pinned (.plain (OpenSpec.upto possessionStoriesSpec)) possessionStoriesUptoCard

/-- THE SECOND FORM's CARD OF 'versinelaw10.PossessionSafe'. -/
def possessionSafeUptoCard : Claim7 := { stood := { row := possessionSafeUptoRow, standIns := [], harness := (true, "45d16f3ebecc0217c453ebacf3e70b4aad554e85e1a8fdab1dea6283be739f79"), looks := false }, kinds := [], alts := [], laidByText := true, laidKinds := [.data, .data, .data, .data, .pinned], laidTests := true, laidLooks := .later }
def PossessionSafeUptoCardSaid : Prop := Claim7.holds Tryz.pinned (.plain (OpenSpec.upto possessionSafeSpec)) possessionSafeUptoCard

/-- THE SECOND FORM's CARD OF 'versinelaw10.PossessionHolds'. -/
def possessionHoldsUptoCard : Claim7 := { stood := { row := possessionHoldsUptoRow, standIns := [], harness := (true, "45d16f3ebecc0217c453ebacf3e70b4aad554e85e1a8fdab1dea6283be739f79"), looks := false }, kinds := [], alts := [], laidByText := true, laidKinds := [.data, .data, .data, .data, .pinned], laidTests := true, laidLooks := .later }
def PossessionHoldsUptoCardSaid : Prop := Claim7.holds Tryz.pinned (.plain (OpenSpec.upto possessionHoldsSpec)) possessionHoldsUptoCard

/-- THE SECOND FORM's CARD OF 'versinelaw10.PossessionLogs'. -/
def possessionLogsUptoCard : Claim7 := { stood := { row := possessionLogsUptoRow, standIns := [], harness := (true, "45d16f3ebecc0217c453ebacf3e70b4aad554e85e1a8fdab1dea6283be739f79"), looks := false }, kinds := [], alts := [], laidByText := true, laidKinds := [.data, .data, .data, .data, .pinned], laidTests := true, laidLooks := .later }
def PossessionLogsUptoCardSaid : Prop := Claim7.holds Tryz.pinned (.plain (OpenSpec.upto possessionLogsSpec)) possessionLogsUptoCard

/-- THE SECOND FORM's CARD OF 'versinelaw10.PossessionSessions'. -/
def possessionSessionsUptoCard : Claim7 := { stood := { row := possessionSessionsUptoRow, standIns := [], harness := (true, "45d16f3ebecc0217c453ebacf3e70b4aad554e85e1a8fdab1dea6283be739f79"), looks := false }, kinds := [], alts := [], laidByText := true, laidKinds := [.data, .data, .data, .data, .pinned], laidTests := true, laidLooks := .later }
def PossessionSessionsUptoCardSaid : Prop := Claim7.holds Tryz.pinned (.plain (OpenSpec.upto possessionSessionsSpec)) possessionSessionsUptoCard

/-- THE SECOND FORM's CARD OF 'versinelaw10.PossessionTracks'. -/
def possessionTracksUptoCard : Claim7 := { stood := { row := possessionTracksUptoRow, standIns := [], harness := (true, "45d16f3ebecc0217c453ebacf3e70b4aad554e85e1a8fdab1dea6283be739f79"), looks := false }, kinds := [], alts := [], laidByText := true, laidKinds := [.data, .data, .data, .data, .pinned], laidTests := true, laidLooks := .later }
def PossessionTracksUptoCardSaid : Prop := Claim7.holds Tryz.pinned (.plain (OpenSpec.upto possessionTracksSpec)) possessionTracksUptoCard

/-- THE SECOND FORM's CARD OF 'versinelaw10.PossessionTurns'. -/
def possessionTurnsUptoCard : Claim7 := { stood := { row := possessionTurnsUptoRow, standIns := [], harness := (true, "45d16f3ebecc0217c453ebacf3e70b4aad554e85e1a8fdab1dea6283be739f79"), looks := false }, kinds := [], alts := [], laidByText := true, laidKinds := [.data, .data, .data, .data, .pinned], laidTests := true, laidLooks := .later }
def PossessionTurnsUptoCardSaid : Prop := Claim7.holds Tryz.pinned (.plain (OpenSpec.upto possessionTurnsSpec)) possessionTurnsUptoCard

/-- THE SECOND FORM's CARD OF 'versinelaw10.PossessionEvents'. -/
def possessionEventsUptoCard : Claim7 := { stood := { row := possessionEventsUptoRow, standIns := [], harness := (true, "45d16f3ebecc0217c453ebacf3e70b4aad554e85e1a8fdab1dea6283be739f79"), looks := false }, kinds := [], alts := [], laidByText := true, laidKinds := [.data, .data, .data, .data, .pinned], laidTests := true, laidLooks := .later }
def PossessionEventsUptoCardSaid : Prop := Claim7.holds Tryz.pinned (.plain (OpenSpec.upto possessionEventsSpec)) possessionEventsUptoCard

/-- THE SECOND FORM's CARD OF 'versinelaw10.PossessionTorn'. -/
def possessionTornUptoCard : Claim7 := { stood := { row := possessionTornUptoRow, standIns := [], harness := (true, "45d16f3ebecc0217c453ebacf3e70b4aad554e85e1a8fdab1dea6283be739f79"), looks := false }, kinds := [], alts := [], laidByText := true, laidKinds := [.data, .data, .data, .data, .pinned], laidTests := true, laidLooks := .later }
def PossessionTornUptoCardSaid : Prop := Claim7.holds Tryz.pinned (.plain (OpenSpec.upto possessionTornSpec)) possessionTornUptoCard

/-- THE SECOND FORM's CARD OF 'versinelaw10.PossessionReady'. -/
def possessionReadyUptoCard : Claim7 := { stood := { row := possessionReadyUptoRow, standIns := [], harness := (true, "45d16f3ebecc0217c453ebacf3e70b4aad554e85e1a8fdab1dea6283be739f79"), looks := false }, kinds := [], alts := [], laidByText := true, laidKinds := [.data, .data, .data, .data, .pinned], laidTests := true, laidLooks := .later }
def PossessionReadyUptoCardSaid : Prop := Claim7.holds Tryz.pinned (.plain (OpenSpec.upto possessionReadySpec)) possessionReadyUptoCard

/-- THE SECOND FORM's CARD OF 'versinetop.TopShovelInquiry'. -/
def topShovelInquiryUptoCard : Claim7 := { stood := { row := topShovelInquiryUptoRow, standIns := [], harness := (true, "45d16f3ebecc0217c453ebacf3e70b4aad554e85e1a8fdab1dea6283be739f79"), looks := false }, kinds := [], alts := [], laidByText := true, laidKinds := [.data, .data, .data, .data, .pinned], laidTests := true, laidLooks := .later }
def TopShovelInquiryUptoCardSaid : Prop := Claim7.holds Tryz.pinned (.plain (OpenSpec.upto topShovelInquirySpec)) topShovelInquiryUptoCard
end Rows
end Go.Proofs.YtlooccmcmeofhaaGreatDoor
