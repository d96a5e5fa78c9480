/-
  ENTRIES: EntriesOf of the reference.
-/
import Derived.Test.YtdlkoffandhclaaDoorEntLaw
import Derived.Test.YtdlkoffandhclaaDoorLsEntry
import Derived.Test.YtdlkoffandhclaaDoorBox4
import Derived.Deep.RegionHeld3
import Derived.Deep.RegionLaw
import Derived.Deep.CutRange
import Derived.BigQuiet
set_option linter.unusedVariables false
set_option linter.unusedSimpArgs false
namespace Go.Proofs.YtdlkoffandhclaaDoor
open Go.RowKit
end Go.Proofs.YtdlkoffandhclaaDoor
