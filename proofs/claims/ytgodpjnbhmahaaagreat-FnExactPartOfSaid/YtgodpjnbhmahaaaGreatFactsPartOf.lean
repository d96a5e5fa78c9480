/-
  FACTSPARTOF: closed facts of the row of FnExactPartOf. Written by a program (genfacts.py).
-/
import Derived.Test.YtgodpjnbhmahaaaGreatFacts0
import Derived.Test.YtgodpjnbhmahaaaGreatChecked
import Derived.Test.YtgodpjnbhmahaaaGreatRows
import Derived.KernelRfl
import Derived.JoinedOf
set_option linter.unusedVariables false
set_option linter.unusedSimpArgs false
namespace Go.Proofs.YtgodpjnbhmahaaaGreat.fnExactPartOf
open Go
theorem fact_inPlace : (Rows.fnExactPartOfRow.inPlace == Tryz.prog.inPlace 5) = true := by kernel_rfl
theorem fact_unfollowed : (Rows.fnExactPartOfRow.unfollowed == Tryz.prog.unfollowed 5) = true := by kernel_rfl
theorem fact_recurses : (Rows.fnExactPartOfRow.recurses == Tryz.prog.recurses 5) = true := by kernel_rfl
theorem fact_named : (Rows.fnExactPartOfRow.named == Tryz.prog.varsNamed 5) = true := by kernel_rfl
theorem fact_lifts : (Rows.fnExactPartOfRow.lifted == Tryz.prog.liftsFinal) = true := by kernel_rfl
theorem fact_plainKeys : (Rows.fnExactPartOfRow.plainKeys == Tryz.prog.plainKeys) = true := by kernel_rfl
theorem fact_wf : Rows.fnExactPartOfRow.wf (OpenSpec.ofChange Rows.fnExactPartOfSpec) = true := by kernel_rfl
theorem facts : joinedFacts Tryz.prog 5 Tryz.f5 Rows.fnExactPartOfSpec Rows.fnExactPartOfRow = true := by
  unfold joinedFacts
  rw [fact_inPlace, fact_unfollowed, fact_recurses, fact_named, fact_lifts, fact_plainKeys, fact_wf, fact_heard, fact_may, fact_laid, fact_mapsRowed]
  kernel_rfl
end Go.Proofs.YtgodpjnbhmahaaaGreat.fnExactPartOf
