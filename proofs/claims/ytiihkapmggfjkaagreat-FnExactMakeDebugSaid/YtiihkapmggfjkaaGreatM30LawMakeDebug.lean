/-
  PART.
-/
import Derived.Test.YtiihkapmggfjkaaGreatM9LawMakeDebug
import Derived.Deep.AppendSrc
import Derived.Deep.MidRow
import Derived.Laws.IdiomStrings
set_option linter.unusedVariables false
set_option linter.unusedSimpArgs false
set_option maxRecDepth 100000
set_option maxHeartbeats 8000000
namespace Go.Proofs.YtiihkapmggfjkaaGreat
open IntKind renaming i64->I
open Go.RowKit
theorem DW (n:Nat)(h:n<=4611686018427387903):bits .and I (n:Int) 1=(n:Int) % 2:=bits_mask I 62 (by decide) I9 1 (by decide) _ (by omega) (by omega)
end Go.Proofs.YtiihkapmggfjkaaGreat
