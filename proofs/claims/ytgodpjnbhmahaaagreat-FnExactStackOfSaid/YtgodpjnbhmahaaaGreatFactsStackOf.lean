/-
  FACTSSTACKOF: closed facts of the row of FnExactStackOf. Written by a program (genfacts.py).
-/
import Derived.Test.YtgodpjnbhmahaaaGreatFacts0
import Derived.Test.YtgodpjnbhmahaaaGreatChecked
import Derived.Test.YtgodpjnbhmahaaaGreatRows
import Derived.KernelRfl
import Derived.JoinedOf
set_option linter.unusedVariables false
set_option linter.unusedSimpArgs false
namespace Go.Proofs.YtgodpjnbhmahaaaGreat.fnExactStackOf
open Go
theorem fact_inPlace : (Rows.fnExactStackOfRow.inPlace == Tryz.prog.inPlace 6) = true := by kernel_rfl
theorem fact_unfollowed : (Rows.fnExactStackOfRow.unfollowed == Tryz.prog.unfollowed 6) = true := by kernel_rfl
theorem fact_recurses : (Rows.fnExactStackOfRow.recurses == Tryz.prog.recurses 6) = true := by kernel_rfl
theorem fact_named : (Rows.fnExactStackOfRow.named == Tryz.prog.varsNamed 6) = true := by kernel_rfl
theorem fact_lifts : (Rows.fnExactStackOfRow.lifted == Tryz.prog.liftsFinal) = true := by kernel_rfl
theorem fact_plainKeys : (Rows.fnExactStackOfRow.plainKeys == Tryz.prog.plainKeys) = true := by kernel_rfl
theorem fact_wf : Rows.fnExactStackOfRow.wf (OpenSpec.ofChange Rows.fnExactStackOfSpec) = true := by kernel_rfl
theorem facts : joinedFacts Tryz.prog 6 Tryz.f6 Rows.fnExactStackOfSpec Rows.fnExactStackOfRow = true := by
  unfold joinedFacts
  rw [fact_inPlace, fact_unfollowed, fact_recurses, fact_named, fact_lifts, fact_plainKeys, fact_wf, fact_heard, fact_may, fact_laid, fact_mapsRowed]
  kernel_rfl
end Go.Proofs.YtgodpjnbhmahaaaGreat.fnExactStackOf
