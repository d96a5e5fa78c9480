/-
  DERIVED. GIVEN WITH THE SEED: THE CARDS: each row of YtfpacmfhpkcipaaGreatDoorRows.lean that lists a variable, with what it lists TIED to the program's text (the seventh form; the later family's looks); each row that meets fmt, with fmt's text TOLD by the authors' own Lean function (tested against real Go, not proved from fmt's source: count such statements apart). THE CARD IS WHAT COUNTS. Prove the row's statement (the work); the ties are given (YtfpacmfhpkcipaaGreatDoorTie.lean); close each card by the builder's one call (the guide's Derived/Test/ToyasCard.lean, 'card_holds'). Laid BY PROGRAM, IN A SANDBOX (cutbox-door.mjs). By AI agents, Wed Nov 11 2026. No macro, syntax, notation, axiom, sorry.
-/
import Derived.Test.YtfpacmfhpkcipaaGreatDoorRows
import GoSem.ClaimSeven
namespace Go.Proofs.YtfpacmfhpkcipaaGreatDoor
namespace Rows

/-- THE TIED CARD OF 'laws.FnExactTidy'. -/
def fnExactTidyCard : Claim7 := { stood := { row := fnExactTidyRow, standIns := [], harness := (true, "e526626bfab561ee1bd163a376c3b95eb9f14def6e8bff2cd70c2a526bf49bce"), looks := false }, kinds := [], alts := [], laidByText := true, laidKinds := [.data, .data, .data, .data, .pinned], laidTests := true, laidLooks := .later }
def FnExactTidyCardSaid : Prop := Claim7.holds Tryz.pinned (.plain (OpenSpec.ofChange fnExactTidySpec)) fnExactTidyCard

/-- THE TIED CARD OF 'laws.FnExactMergeProfiles'. -/
def fnExactMergeProfilesCard : Claim7 := { stood := { row := fnExactMergeProfilesRow, standIns := [], harness := (true, "e526626bfab561ee1bd163a376c3b95eb9f14def6e8bff2cd70c2a526bf49bce"), looks := false }, kinds := [], alts := [], laidByText := true, laidKinds := [.data, .data, .data, .data, .pinned], laidTests := true, laidLooks := .later }
def FnExactMergeProfilesCardSaid : Prop := Claim7.holds Tryz.pinned (.plain (OpenSpec.ofChange fnExactMergeProfilesSpec)) fnExactMergeProfilesCard

/-- THE TIED CARD OF 'laws.FnExactScaleProfile'. -/
def fnExactScaleProfileCard : Claim7 := { stood := { row := fnExactScaleProfileRow, standIns := [], harness := (true, "e526626bfab561ee1bd163a376c3b95eb9f14def6e8bff2cd70c2a526bf49bce"), looks := false }, kinds := [], alts := [], laidByText := true, laidKinds := [.data, .data, .data, .data, .pinned], laidTests := true, laidLooks := .later }
def FnExactScaleProfileCardSaid : Prop := Claim7.holds Tryz.pinned (.plain (OpenSpec.ofChange fnExactScaleProfileSpec)) fnExactScaleProfileCard

/-- THE TIED CARD OF 'laws.FnExactMergeAll'. -/
def fnExactMergeAllCard : Claim7 := { stood := { row := fnExactMergeAllRow, standIns := [], harness := (true, "e526626bfab561ee1bd163a376c3b95eb9f14def6e8bff2cd70c2a526bf49bce"), looks := false }, kinds := [], alts := [], laidByText := true, laidKinds := [.data, .data, .data, .data, .pinned], laidTests := true, laidLooks := .later }
def FnExactMergeAllCardSaid : Prop := Claim7.holds Tryz.pinned (.plain (OpenSpec.ofChange fnExactMergeAllSpec)) fnExactMergeAllCard

/-- THE TIED CARD OF 'laws.FnEntries'. -/
def fnEntriesCard : Claim7 := { stood := { row := fnEntriesRow, standIns := [], harness := (true, "e526626bfab561ee1bd163a376c3b95eb9f14def6e8bff2cd70c2a526bf49bce"), looks := false }, kinds := [], alts := [], laidByText := true, laidKinds := [.data, .data, .data, .data, .pinned], laidTests := true, laidLooks := .later }
def FnEntriesCardSaid : Prop := Claim7.holds Tryz.pinned (.plain (OpenSpec.ofChange fnEntriesSpec)) fnEntriesCard

/-- THE TIED CARD OF 'laws.FnDifferences'. -/
def fnDifferencesCard : Claim7 := { stood := { row := fnDifferencesRow, standIns := [], harness := (true, "e526626bfab561ee1bd163a376c3b95eb9f14def6e8bff2cd70c2a526bf49bce"), looks := false }, kinds := [], alts := [], laidByText := true, laidKinds := [.data, .data, .data, .data, .pinned], laidTests := true, laidLooks := .later }
def FnDifferencesCardSaid : Prop := Claim7.holds Tryz.pinned (.plain (OpenSpec.ofChange fnDifferencesSpec)) fnDifferencesCard

/-- THE TIED CARD OF 'laws.FnMerged'. -/
def fnMergedCard : Claim7 := { stood := { row := fnMergedRow, standIns := [], harness := (true, "e526626bfab561ee1bd163a376c3b95eb9f14def6e8bff2cd70c2a526bf49bce"), looks := false }, kinds := [], alts := [], laidByText := true, laidKinds := [.data, .data, .data, .data, .pinned], laidTests := true, laidLooks := .later }
def FnMergedCardSaid : Prop := Claim7.holds Tryz.pinned (.plain (OpenSpec.ofChange fnMergedSpec)) fnMergedCard

/-- THE TIED CARD OF 'laws.FnStored'. -/
def fnStoredCard : Claim7 := { stood := { row := fnStoredRow, standIns := [], harness := (true, "e526626bfab561ee1bd163a376c3b95eb9f14def6e8bff2cd70c2a526bf49bce"), looks := false }, kinds := [], alts := [], laidByText := true, laidKinds := [.data, .data, .data, .data, .pinned], laidTests := true, laidLooks := .later }
def FnStoredCardSaid : Prop := Claim7.holds Tryz.pinned (.plain (OpenSpec.ofChange fnStoredSpec)) fnStoredCard

/-- THE SECOND FORM's CARD OF 'laws.FnExactTidy'. -/
def fnExactTidyUptoCard : Claim7 := { stood := { row := fnExactTidyUptoRow, standIns := [], harness := (true, "e526626bfab561ee1bd163a376c3b95eb9f14def6e8bff2cd70c2a526bf49bce"), looks := false }, kinds := [], alts := [], laidByText := true, laidKinds := [.data, .data, .data, .data, .pinned], laidTests := true, laidLooks := .later }
def FnExactTidyUptoCardSaid : Prop := Claim7.holds Tryz.pinned (.plain (OpenSpec.upto fnExactTidySpec)) fnExactTidyUptoCard

/-- THE SECOND FORM's CARD OF 'laws.FnExactMergeProfiles'. -/
def fnExactMergeProfilesUptoCard : Claim7 := { stood := { row := fnExactMergeProfilesUptoRow, standIns := [], harness := (true, "e526626bfab561ee1bd163a376c3b95eb9f14def6e8bff2cd70c2a526bf49bce"), looks := false }, kinds := [], alts := [], laidByText := true, laidKinds := [.data, .data, .data, .data, .pinned], laidTests := true, laidLooks := .later }
def FnExactMergeProfilesUptoCardSaid : Prop := Claim7.holds Tryz.pinned (.plain (OpenSpec.upto fnExactMergeProfilesSpec)) fnExactMergeProfilesUptoCard

/-- THE SECOND FORM's CARD OF 'laws.FnExactScaleProfile'. -/
def fnExactScaleProfileUptoCard : Claim7 := { stood := { row := fnExactScaleProfileUptoRow, standIns := [], harness := (true, "e526626bfab561ee1bd163a376c3b95eb9f14def6e8bff2cd70c2a526bf49bce"), looks := false }, kinds := [], alts := [], laidByText := true, laidKinds := [.data, .data, .data, .data, .pinned], laidTests := true, laidLooks := .later }
def FnExactScaleProfileUptoCardSaid : Prop := Claim7.holds Tryz.pinned (.plain (OpenSpec.upto fnExactScaleProfileSpec)) fnExactScaleProfileUptoCard

/-- THE SECOND FORM's CARD OF 'laws.FnExactMergeAll'. -/
def fnExactMergeAllUptoCard : Claim7 := { stood := { row := fnExactMergeAllUptoRow, standIns := [], harness := (true, "e526626bfab561ee1bd163a376c3b95eb9f14def6e8bff2cd70c2a526bf49bce"), looks := false }, kinds := [], alts := [], laidByText := true, laidKinds := [.data, .data, .data, .data, .pinned], laidTests := true, laidLooks := .later }
def FnExactMergeAllUptoCardSaid : Prop := Claim7.holds Tryz.pinned (.plain (OpenSpec.upto fnExactMergeAllSpec)) fnExactMergeAllUptoCard

/-- THE SECOND FORM's CARD OF 'laws.FnEntries'. -/
def fnEntriesUptoCard : Claim7 := { stood := { row := fnEntriesUptoRow, standIns := [], harness := (true, "e526626bfab561ee1bd163a376c3b95eb9f14def6e8bff2cd70c2a526bf49bce"), looks := false }, kinds := [], alts := [], laidByText := true, laidKinds := [.data, .data, .data, .data, .pinned], laidTests := true, laidLooks := .later }
def FnEntriesUptoCardSaid : Prop := Claim7.holds Tryz.pinned (.plain (OpenSpec.upto fnEntriesSpec)) fnEntriesUptoCard

/-- THE SECOND FORM's CARD OF 'laws.FnDifferences'. -/
def fnDifferencesUptoCard : Claim7 := { stood := { row := fnDifferencesUptoRow, standIns := [], harness := (true, "e526626bfab561ee1bd163a376c3b95eb9f14def6e8bff2cd70c2a526bf49bce"), looks := false }, kinds := [], alts := [], laidByText := true, laidKinds := [.data, .data, .data, .data, .pinned], laidTests := true, laidLooks := .later }
def FnDifferencesUptoCardSaid : Prop := Claim7.holds Tryz.pinned (.plain (OpenSpec.upto fnDifferencesSpec)) fnDifferencesUptoCard

/-- THE SECOND FORM's CARD OF 'laws.FnMerged'. -/
def fnMergedUptoCard : Claim7 := { stood := { row := fnMergedUptoRow, standIns := [], harness := (true, "e526626bfab561ee1bd163a376c3b95eb9f14def6e8bff2cd70c2a526bf49bce"), looks := false }, kinds := [], alts := [], laidByText := true, laidKinds := [.data, .data, .data, .data, .pinned], laidTests := true, laidLooks := .later }
def FnMergedUptoCardSaid : Prop := Claim7.holds Tryz.pinned (.plain (OpenSpec.upto fnMergedSpec)) fnMergedUptoCard

/-- THE SECOND FORM's CARD OF 'laws.FnStored'. -/
def fnStoredUptoCard : Claim7 := { stood := { row := fnStoredUptoRow, standIns := [], harness := (true, "e526626bfab561ee1bd163a376c3b95eb9f14def6e8bff2cd70c2a526bf49bce"), looks := false }, kinds := [], alts := [], laidByText := true, laidKinds := [.data, .data, .data, .data, .pinned], laidTests := true, laidLooks := .later }
def FnStoredUptoCardSaid : Prop := Claim7.holds Tryz.pinned (.plain (OpenSpec.upto fnStoredSpec)) fnStoredUptoCard
end Rows
end Go.Proofs.YtfpacmfhpkcipaaGreatDoor
