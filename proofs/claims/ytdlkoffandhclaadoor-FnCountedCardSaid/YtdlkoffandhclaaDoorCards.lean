/-
  DERIVED. GIVEN WITH THE SEED: THE CARDS: each row of YtdlkoffandhclaaDoorRows.lean that lists a variable, with what it lists TIED to the program's text (the seventh form; the later family's looks); each row that meets fmt, with fmt's text TOLD by the authors' own Lean function (tested against real Go, not proved from fmt's source: count such statements apart). THE CARD IS WHAT COUNTS. Prove the row's statement (the work); the ties are given (YtdlkoffandhclaaDoorTie.lean); close each card by the builder's one call (the guide's Derived/Test/ToyasCard.lean, 'card_holds'). Laid BY PROGRAM, IN A SANDBOX (cutbox-door.mjs). By AI agents, Wed Nov 11 2026. No macro, syntax, notation, axiom, sorry.
-/
import Derived.Test.YtdlkoffandhclaaDoorRows
import GoSem.ClaimSeven
namespace Go.Proofs.YtdlkoffandhclaaDoor
namespace Rows

/-- THE TIED CARD OF 'laws.FnCounted'. -/
def fnCountedCard : Claim7 := { stood := { row := fnCountedRow, standIns := [], harness := (true, "2a65b328aa252add8de26320893d62113b55db846be93daad974575d28be4281"), looks := false }, kinds := [], alts := [], laidByText := true, laidKinds := [.data, .data, .data], laidTests := true, laidLooks := .later }
def FnCountedCardSaid : Prop := Claim7.holds Tryd.pinned (.plain (OpenSpec.ofChange fnCountedSpec)) fnCountedCard

/-- THE SECOND FORM's CARD OF 'laws.FnCounted'. -/
def fnCountedUptoCard : Claim7 := { stood := { row := fnCountedUptoRow, standIns := [], harness := (true, "2a65b328aa252add8de26320893d62113b55db846be93daad974575d28be4281"), looks := false }, kinds := [], alts := [], laidByText := true, laidKinds := [.data, .data, .data], laidTests := true, laidLooks := .later }
def FnCountedUptoCardSaid : Prop := Claim7.holds Tryd.pinned (.plain (OpenSpec.upto fnCountedSpec)) fnCountedUptoCard
end Rows
end Go.Proofs.YtdlkoffandhclaaDoor
