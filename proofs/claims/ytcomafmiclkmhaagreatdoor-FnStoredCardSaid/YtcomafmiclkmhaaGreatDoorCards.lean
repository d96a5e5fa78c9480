/-
  DERIVED. GIVEN WITH THE SEED: THE CARDS: each row of YtcomafmiclkmhaaGreatDoorRows.lean that lists a variable, with what it lists TIED to the program's text (the seventh form; the later family's looks); each row that meets fmt, with fmt's text TOLD by the authors' own Lean function (tested against real Go, not proved from fmt's source: count such statements apart). THE CARD IS WHAT COUNTS. Prove the row's statement (the work); the ties are given (YtcomafmiclkmhaaGreatDoorTie.lean); close each card by the builder's one call (the guide's Derived/Test/ToyasCard.lean, 'card_holds'). Laid BY PROGRAM, IN A SANDBOX (cutbox-door.mjs). By AI agents, Wed Nov 11 2026. No macro, syntax, notation, axiom, sorry.
-/
import Derived.Test.YtcomafmiclkmhaaGreatDoorRows
import GoSem.ClaimSeven
namespace Go.Proofs.YtcomafmiclkmhaaGreatDoor
namespace Rows

/-- THE TIED CARD OF 'laws.FnStored'. -/
def fnStoredCard : Claim7 := { stood := { row := fnStoredRow, standIns := [], harness := (true, "57ec068b171e606b920a97e141f2e98d99c95f25153a5495c00af62271067c4a"), looks := false }, kinds := [], alts := [], laidByText := true, laidKinds := [.data, .data, .data, .data, .pinned], laidTests := true, laidLooks := .later }
def FnStoredCardSaid : Prop := Claim7.holds Tryz.pinned (.plain (OpenSpec.ofChange fnStoredSpec)) fnStoredCard

/-- THE SECOND FORM's CARD OF 'laws.FnStored'. -/
def fnStoredUptoCard : Claim7 := { stood := { row := fnStoredUptoRow, standIns := [], harness := (true, "57ec068b171e606b920a97e141f2e98d99c95f25153a5495c00af62271067c4a"), looks := false }, kinds := [], alts := [], laidByText := true, laidKinds := [.data, .data, .data, .data, .pinned], laidTests := true, laidLooks := .later }
def FnStoredUptoCardSaid : Prop := Claim7.holds Tryz.pinned (.plain (OpenSpec.upto fnStoredSpec)) fnStoredUptoCard
end Rows
end Go.Proofs.YtcomafmiclkmhaaGreatDoor
