/-
  DERIVED. GIVEN WITH THE SEED: THE CARDS: each row of YtdlkoffandhclaaGreatDoorRows.lean that lists a variable, with what it lists TIED to the program's text (the seventh form; the later family's looks); each row that meets fmt, with fmt's text TOLD by the authors' own Lean function (tested against real Go, not proved from fmt's source: count such statements apart). THE CARD IS WHAT COUNTS. Prove the row's statement (the work); the ties are given (YtdlkoffandhclaaGreatDoorTie.lean); close each card by the builder's one call (the guide's Derived/Test/ToyasCard.lean, 'card_holds'). Laid BY PROGRAM, IN A SANDBOX (cutbox-door.mjs). By AI agents, Wed Nov 11 2026. No macro, syntax, notation, axiom, sorry.
-/
import Derived.Test.YtdlkoffandhclaaGreatDoorRows
import GoSem.ClaimSeven
namespace Go.Proofs.YtdlkoffandhclaaGreatDoor
namespace Rows

/-- THE TIED CARD OF 'laws.FnExactScaleProfile'. -/
def fnExactScaleProfileCard : Claim7 := { stood := { row := fnExactScaleProfileRow, standIns := [], harness := (true, "223fded4ff9f1d09fa78e75d94c7dee0f8fbcb9fe27840c39f670ffa5240e8df"), looks := false }, kinds := [], alts := [], laidByText := true, laidKinds := [.data, .data, .data, .data, .pinned], laidTests := true, laidLooks := .later }
def FnExactScaleProfileCardSaid : Prop := Claim7.holds Tryz.pinned (.plain (OpenSpec.ofChange fnExactScaleProfileSpec)) fnExactScaleProfileCard

/-- THE TIED CARD OF 'laws.FnEntries'. -/
def fnEntriesCard : Claim7 := { stood := { row := fnEntriesRow, standIns := [], harness := (true, "223fded4ff9f1d09fa78e75d94c7dee0f8fbcb9fe27840c39f670ffa5240e8df"), looks := false }, kinds := [], alts := [], laidByText := true, laidKinds := [.data, .data, .data, .data, .pinned], laidTests := true, laidLooks := .later }
def FnEntriesCardSaid : Prop := Claim7.holds Tryz.pinned (.plain (OpenSpec.ofChange fnEntriesSpec)) fnEntriesCard

/-- THE TIED CARD OF 'laws.FnDifferences'. -/
def fnDifferencesCard : Claim7 := { stood := { row := fnDifferencesRow, standIns := [], harness := (true, "223fded4ff9f1d09fa78e75d94c7dee0f8fbcb9fe27840c39f670ffa5240e8df"), looks := false }, kinds := [], alts := [], laidByText := true, laidKinds := [.data, .data, .data, .data, .pinned], laidTests := true, laidLooks := .later }
def FnDifferencesCardSaid : Prop := Claim7.holds Tryz.pinned (.plain (OpenSpec.ofChange fnDifferencesSpec)) fnDifferencesCard

/-- THE TIED CARD OF 'laws.FnMerged'. -/
def fnMergedCard : Claim7 := { stood := { row := fnMergedRow, standIns := [], harness := (true, "223fded4ff9f1d09fa78e75d94c7dee0f8fbcb9fe27840c39f670ffa5240e8df"), looks := false }, kinds := [], alts := [], laidByText := true, laidKinds := [.data, .data, .data, .data, .pinned], laidTests := true, laidLooks := .later }
def FnMergedCardSaid : Prop := Claim7.holds Tryz.pinned (.plain (OpenSpec.ofChange fnMergedSpec)) fnMergedCard

/-- THE TIED CARD OF 'laws.FnStored'. -/
def fnStoredCard : Claim7 := { stood := { row := fnStoredRow, standIns := [], harness := (true, "223fded4ff9f1d09fa78e75d94c7dee0f8fbcb9fe27840c39f670ffa5240e8df"), looks := false }, kinds := [], alts := [], laidByText := true, laidKinds := [.data, .data, .data, .data, .pinned], laidTests := true, laidLooks := .later }
def FnStoredCardSaid : Prop := Claim7.holds Tryz.pinned (.plain (OpenSpec.ofChange fnStoredSpec)) fnStoredCard

/-- THE SECOND FORM's CARD OF 'laws.FnExactScaleProfile'. -/
def fnExactScaleProfileUptoCard : Claim7 := { stood := { row := fnExactScaleProfileUptoRow, standIns := [], harness := (true, "223fded4ff9f1d09fa78e75d94c7dee0f8fbcb9fe27840c39f670ffa5240e8df"), looks := false }, kinds := [], alts := [], laidByText := true, laidKinds := [.data, .data, .data, .data, .pinned], laidTests := true, laidLooks := .later }
def FnExactScaleProfileUptoCardSaid : Prop := Claim7.holds Tryz.pinned (.plain (OpenSpec.upto fnExactScaleProfileSpec)) fnExactScaleProfileUptoCard

/-- THE SECOND FORM's CARD OF 'laws.FnEntries'. -/
def fnEntriesUptoCard : Claim7 := { stood := { row := fnEntriesUptoRow, standIns := [], harness := (true, "223fded4ff9f1d09fa78e75d94c7dee0f8fbcb9fe27840c39f670ffa5240e8df"), looks := false }, kinds := [], alts := [], laidByText := true, laidKinds := [.data, .data, .data, .data, .pinned], laidTests := true, laidLooks := .later }
def FnEntriesUptoCardSaid : Prop := Claim7.holds Tryz.pinned (.plain (OpenSpec.upto fnEntriesSpec)) fnEntriesUptoCard

/-- THE SECOND FORM's CARD OF 'laws.FnDifferences'. -/
def fnDifferencesUptoCard : Claim7 := { stood := { row := fnDifferencesUptoRow, standIns := [], harness := (true, "223fded4ff9f1d09fa78e75d94c7dee0f8fbcb9fe27840c39f670ffa5240e8df"), looks := false }, kinds := [], alts := [], laidByText := true, laidKinds := [.data, .data, .data, .data, .pinned], laidTests := true, laidLooks := .later }
def FnDifferencesUptoCardSaid : Prop := Claim7.holds Tryz.pinned (.plain (OpenSpec.upto fnDifferencesSpec)) fnDifferencesUptoCard

/-- THE SECOND FORM's CARD OF 'laws.FnMerged'. -/
def fnMergedUptoCard : Claim7 := { stood := { row := fnMergedUptoRow, standIns := [], harness := (true, "223fded4ff9f1d09fa78e75d94c7dee0f8fbcb9fe27840c39f670ffa5240e8df"), looks := false }, kinds := [], alts := [], laidByText := true, laidKinds := [.data, .data, .data, .data, .pinned], laidTests := true, laidLooks := .later }
def FnMergedUptoCardSaid : Prop := Claim7.holds Tryz.pinned (.plain (OpenSpec.upto fnMergedSpec)) fnMergedUptoCard

/-- THE SECOND FORM's CARD OF 'laws.FnStored'. -/
def fnStoredUptoCard : Claim7 := { stood := { row := fnStoredUptoRow, standIns := [], harness := (true, "223fded4ff9f1d09fa78e75d94c7dee0f8fbcb9fe27840c39f670ffa5240e8df"), looks := false }, kinds := [], alts := [], laidByText := true, laidKinds := [.data, .data, .data, .data, .pinned], laidTests := true, laidLooks := .later }
def FnStoredUptoCardSaid : Prop := Claim7.holds Tryz.pinned (.plain (OpenSpec.upto fnStoredSpec)) fnStoredUptoCard
end Rows
end Go.Proofs.YtdlkoffandhclaaGreatDoor
