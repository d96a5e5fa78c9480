/-
  FACTSMAKEDEBUG: closed facts of the row of FnExactMakeDebug. Written by a program (genfacts.py).
-/
import Derived.Test.YtiihkapmggfjkaaGreatFacts0
import Derived.Test.YtiihkapmggfjkaaGreatChecked
import Derived.Test.YtiihkapmggfjkaaGreatRows
import Derived.KernelRfl
import Derived.JoinedOf
set_option linter.unusedVariables false
set_option linter.unusedSimpArgs false
namespace Go.Proofs.YtiihkapmggfjkaaGreat.fnExactMakeDebug
open Go
theorem fact_inPlace : (Rows.fnExactMakeDebugRow.inPlace == Tryz.prog.inPlace 3) = true := by kernel_rfl
theorem fact_unfollowed : (Rows.fnExactMakeDebugRow.unfollowed == Tryz.prog.unfollowed 3) = true := by kernel_rfl
theorem fact_recurses : (Rows.fnExactMakeDebugRow.recurses == Tryz.prog.recurses 3) = true := by kernel_rfl
theorem fact_named : (Rows.fnExactMakeDebugRow.named == Tryz.prog.varsNamed 3) = true := by kernel_rfl
theorem fact_lifts : (Rows.fnExactMakeDebugRow.lifted == Tryz.prog.liftsFinal) = true := by kernel_rfl
theorem fact_plainKeys : (Rows.fnExactMakeDebugRow.plainKeys == Tryz.prog.plainKeys) = true := by kernel_rfl
theorem fact_wf : Rows.fnExactMakeDebugRow.wf (OpenSpec.ofChange Rows.fnExactMakeDebugSpec) = true := by kernel_rfl
theorem facts : joinedFacts Tryz.prog 3 Tryz.f3 Rows.fnExactMakeDebugSpec Rows.fnExactMakeDebugRow = true := by
  unfold joinedFacts
  rw [fact_inPlace, fact_unfollowed, fact_recurses, fact_named, fact_lifts, fact_plainKeys, fact_wf, fact_heard, fact_may, fact_laid, fact_mapsRowed]
  kernel_rfl
end Go.Proofs.YtiihkapmggfjkaaGreat.fnExactMakeDebug
