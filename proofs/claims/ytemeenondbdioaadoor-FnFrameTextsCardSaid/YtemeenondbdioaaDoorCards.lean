/-
  DERIVED. GIVEN WITH THE SEED: THE CARDS: each row of YtemeenondbdioaaDoorRows.lean that lists a variable, with what it lists TIED to the program's text (the seventh form; the later family's looks); each row that meets fmt, with fmt's text TOLD by the authors' own Lean function (tested against real Go, not proved from fmt's source: count such statements apart). THE CARD IS WHAT COUNTS. Prove the row's statement (the work); the ties are given (YtemeenondbdioaaDoorTie.lean); close each card by the builder's one call (the guide's Derived/Test/ToyasCard.lean, 'card_holds'). Laid BY PROGRAM, IN A SANDBOX (cutbox-door.mjs). By AI agents, Wed Nov 11 2026. No macro, syntax, notation, axiom, sorry.
-/
import Derived.Test.YtemeenondbdioaaDoorRows
import GoSem.ClaimSeven
namespace Go.Proofs.YtemeenondbdioaaDoor
namespace Rows

/-- THE TIED CARD OF 'laws.FnExactFormatFrames'. -/
def fnExactFormatFramesCard : Claim7 := { stood := { row := fnExactFormatFramesRow, standIns := [], harness := (true, "54120b9bef3c3c8c25bcfb6c7db8f79644f2e0607041845cc316ea18f93f2beb"), looks := false }, kinds := [], alts := [], laidByText := true, laidKinds := [.data, .data, .data], laidTests := true, laidLooks := .later }
def FnExactFormatFramesCardSaid : Prop := Claim7.holds Tryd.pinned (.plain (OpenSpec.ofChange fnExactFormatFramesSpec)) fnExactFormatFramesCard

/-- THE TIED CARD OF 'laws.FnExactParseFrames'. -/
def fnExactParseFramesCard : Claim7 := { stood := { row := fnExactParseFramesRow, standIns := [], harness := (true, "54120b9bef3c3c8c25bcfb6c7db8f79644f2e0607041845cc316ea18f93f2beb"), looks := false }, kinds := [], alts := [], laidByText := true, laidKinds := [.data, .data, .data, .data, .pinned], laidTests := true, laidLooks := .later }
def FnExactParseFramesCardSaid : Prop := Claim7.holds Tryd.pinned (.plain (OpenSpec.ofChange fnExactParseFramesSpec)) fnExactParseFramesCard

/-- THE TIED CARD OF 'laws.FnExactEntriesOf'. -/
def fnExactEntriesOfCard : Claim7 := { stood := { row := fnExactEntriesOfRow, standIns := [], harness := (true, "54120b9bef3c3c8c25bcfb6c7db8f79644f2e0607041845cc316ea18f93f2beb"), looks := false }, kinds := [], alts := [], laidByText := true, laidKinds := [.data, .data, .data], laidTests := true, laidLooks := .later }
def FnExactEntriesOfCardSaid : Prop := Claim7.holds Tryd.pinned (.plain (OpenSpec.ofChange fnExactEntriesOfSpec)) fnExactEntriesOfCard

/-- THE TIED CARD OF 'laws.FnExactProfileOf'. -/
def fnExactProfileOfCard : Claim7 := { stood := { row := fnExactProfileOfRow, standIns := [], harness := (true, "54120b9bef3c3c8c25bcfb6c7db8f79644f2e0607041845cc316ea18f93f2beb"), looks := false }, kinds := [], alts := [], laidByText := true, laidKinds := [.data, .data, .data, .data, .pinned], laidTests := true, laidLooks := .later }
def FnExactProfileOfCardSaid : Prop := Claim7.holds Tryd.pinned (.plain (OpenSpec.ofChange fnExactProfileOfSpec)) fnExactProfileOfCard

/-- THE TIED CARD OF 'laws.FnExactSameProfile'. -/
def fnExactSameProfileCard : Claim7 := { stood := { row := fnExactSameProfileRow, standIns := [], harness := (true, "54120b9bef3c3c8c25bcfb6c7db8f79644f2e0607041845cc316ea18f93f2beb"), looks := false }, kinds := [], alts := [], laidByText := true, laidKinds := [.data, .data, .data], laidTests := true, laidLooks := .later }
def FnExactSameProfileCardSaid : Prop := Claim7.holds Tryd.pinned (.plain (OpenSpec.ofChange fnExactSameProfileSpec)) fnExactSameProfileCard

/-- THE TIED CARD OF 'laws.FnExactDiffProfiles'. -/
def fnExactDiffProfilesCard : Claim7 := { stood := { row := fnExactDiffProfilesRow, standIns := [], harness := (true, "54120b9bef3c3c8c25bcfb6c7db8f79644f2e0607041845cc316ea18f93f2beb"), looks := false }, kinds := [], alts := [], laidByText := true, laidKinds := [.data, .data, .data], laidTests := true, laidLooks := .later }
def FnExactDiffProfilesCardSaid : Prop := Claim7.holds Tryd.pinned (.plain (OpenSpec.ofChange fnExactDiffProfilesSpec)) fnExactDiffProfilesCard

/-- THE TIED CARD OF 'laws.FnFrameTexts'. -/
def fnFrameTextsCard : Claim7 := { stood := { row := fnFrameTextsRow, standIns := [], harness := (true, "54120b9bef3c3c8c25bcfb6c7db8f79644f2e0607041845cc316ea18f93f2beb"), looks := false }, kinds := [], alts := [], laidByText := true, laidKinds := [.data, .data, .data, .data, .pinned], laidTests := true, laidLooks := .later }
def FnFrameTextsCardSaid : Prop := Claim7.holds Tryd.pinned (.plain (OpenSpec.ofChange fnFrameTextsSpec)) fnFrameTextsCard

/-- THE SECOND FORM's CARD OF 'laws.FnExactFormatFrames'. -/
def fnExactFormatFramesUptoCard : Claim7 := { stood := { row := fnExactFormatFramesUptoRow, standIns := [], harness := (true, "54120b9bef3c3c8c25bcfb6c7db8f79644f2e0607041845cc316ea18f93f2beb"), looks := false }, kinds := [], alts := [], laidByText := true, laidKinds := [.data, .data, .data], laidTests := true, laidLooks := .later }
def FnExactFormatFramesUptoCardSaid : Prop := Claim7.holds Tryd.pinned (.plain (OpenSpec.upto fnExactFormatFramesSpec)) fnExactFormatFramesUptoCard

/-- THE SECOND FORM's CARD OF 'laws.FnExactParseFrames'. -/
def fnExactParseFramesUptoCard : Claim7 := { stood := { row := fnExactParseFramesUptoRow, standIns := [], harness := (true, "54120b9bef3c3c8c25bcfb6c7db8f79644f2e0607041845cc316ea18f93f2beb"), looks := false }, kinds := [], alts := [], laidByText := true, laidKinds := [.data, .data, .data, .data, .pinned], laidTests := true, laidLooks := .later }
def FnExactParseFramesUptoCardSaid : Prop := Claim7.holds Tryd.pinned (.plain (OpenSpec.upto fnExactParseFramesSpec)) fnExactParseFramesUptoCard

/-- THE SECOND FORM's CARD OF 'laws.FnExactEntriesOf'. -/
def fnExactEntriesOfUptoCard : Claim7 := { stood := { row := fnExactEntriesOfUptoRow, standIns := [], harness := (true, "54120b9bef3c3c8c25bcfb6c7db8f79644f2e0607041845cc316ea18f93f2beb"), looks := false }, kinds := [], alts := [], laidByText := true, laidKinds := [.data, .data, .data], laidTests := true, laidLooks := .later }
def FnExactEntriesOfUptoCardSaid : Prop := Claim7.holds Tryd.pinned (.plain (OpenSpec.upto fnExactEntriesOfSpec)) fnExactEntriesOfUptoCard

/-- THE SECOND FORM's CARD OF 'laws.FnExactProfileOf'. -/
def fnExactProfileOfUptoCard : Claim7 := { stood := { row := fnExactProfileOfUptoRow, standIns := [], harness := (true, "54120b9bef3c3c8c25bcfb6c7db8f79644f2e0607041845cc316ea18f93f2beb"), looks := false }, kinds := [], alts := [], laidByText := true, laidKinds := [.data, .data, .data, .data, .pinned], laidTests := true, laidLooks := .later }
def FnExactProfileOfUptoCardSaid : Prop := Claim7.holds Tryd.pinned (.plain (OpenSpec.upto fnExactProfileOfSpec)) fnExactProfileOfUptoCard

/-- THE SECOND FORM's CARD OF 'laws.FnExactSameProfile'. -/
def fnExactSameProfileUptoCard : Claim7 := { stood := { row := fnExactSameProfileUptoRow, standIns := [], harness := (true, "54120b9bef3c3c8c25bcfb6c7db8f79644f2e0607041845cc316ea18f93f2beb"), looks := false }, kinds := [], alts := [], laidByText := true, laidKinds := [.data, .data, .data], laidTests := true, laidLooks := .later }
def FnExactSameProfileUptoCardSaid : Prop := Claim7.holds Tryd.pinned (.plain (OpenSpec.upto fnExactSameProfileSpec)) fnExactSameProfileUptoCard

/-- THE SECOND FORM's CARD OF 'laws.FnExactDiffProfiles'. -/
def fnExactDiffProfilesUptoCard : Claim7 := { stood := { row := fnExactDiffProfilesUptoRow, standIns := [], harness := (true, "54120b9bef3c3c8c25bcfb6c7db8f79644f2e0607041845cc316ea18f93f2beb"), looks := false }, kinds := [], alts := [], laidByText := true, laidKinds := [.data, .data, .data], laidTests := true, laidLooks := .later }
def FnExactDiffProfilesUptoCardSaid : Prop := Claim7.holds Tryd.pinned (.plain (OpenSpec.upto fnExactDiffProfilesSpec)) fnExactDiffProfilesUptoCard

/-- THE SECOND FORM's CARD OF 'laws.FnFrameTexts'. -/
def fnFrameTextsUptoCard : Claim7 := { stood := { row := fnFrameTextsUptoRow, standIns := [], harness := (true, "54120b9bef3c3c8c25bcfb6c7db8f79644f2e0607041845cc316ea18f93f2beb"), looks := false }, kinds := [], alts := [], laidByText := true, laidKinds := [.data, .data, .data, .data, .pinned], laidTests := true, laidLooks := .later }
def FnFrameTextsUptoCardSaid : Prop := Claim7.holds Tryd.pinned (.plain (OpenSpec.upto fnFrameTextsSpec)) fnFrameTextsUptoCard
end Rows
end Go.Proofs.YtemeenondbdioaaDoor
