/-
  FACTS0: closed facts of the program, that each row asks. Written by a program (genfacts.py).
-/
import Derived.Test.YtiihkapmggfjkaaGreatChecked
import Derived.Test.YtiihkapmggfjkaaGreatRows
import Derived.KernelRfl
import Derived.JoinedOf
set_option linter.unusedVariables false
set_option linter.unusedSimpArgs false
namespace Go.Proofs.YtiihkapmggfjkaaGreat
open Go
theorem fact_heard : Tryz.prog.stopsHeard = true := by kernel_rfl
theorem fact_may : Tryz.prog.mayEnter = true := by kernel_rfl
theorem fact_laid : laidOutB Tryz.prog = true := by kernel_rfl
theorem fact_mapsRowed : mapsRowed Tryz.prog = true := by kernel_rfl
end Go.Proofs.YtiihkapmggfjkaaGreat
