/-
  SAMPLE (written by gen/sample.py): Signless, ViewOk, SampleOk of the program and of the reference.
-/
import Derived.Test.YtcomafmiclkmhaaGreatDoorFnSample
import Derived.Test.YtcomafmiclkmhaaGreatDoorAppend
set_option linter.unusedVariables false
set_option linter.unusedSimpArgs false
namespace Go.Proofs.YtcomafmiclkmhaaGreatDoor
open Go.RowKit
theorem allT_succ {α : Type} {xs : List α} {f : α → Bool} {j : Nat} {x : α} (h : xs[j]? = some x) (ha : (xs.take j).all f = true) (hf : f x = true) : (xs.take (j + 1)).all f = true := by
  rw [take_snoc h, List.all_append, ha]
  simp [hf]
theorem allT_false {α : Type} {xs : List α} {f : α → Bool} {j : Nat} {x : α} (h : xs[j]? = some x) (hf : f x = false) : xs.all f = false := by
  rw [List.all_eq_false]
  exact ⟨x, List.mem_of_getElem? h, by simp [hf]⟩
def signless (n : Int) : Int := if btw n (-549755813888) 549755813887 then (if n < 0 then -2 * n - 1 else 2 * n) else -1
theorem signless_neg (n : Int) : decide (signless n < 0) = !btw n (-549755813888) 549755813887 := by
  unfold signless
  cases h : btw n (-549755813888) 549755813887
  · simp
  · rw [if_pos rfl]; split <;> simp <;> omega
def viewOk (v : DView) : Bool := btw v.Sp 0 1200 && decide ((v.Words.length : Int) ≤ 1200 - v.Sp)
def sampleOk (x : DSample) : Bool := btw x.Thread 0 2 && (viewOk x.View && (btw x.View.Pc 0 2000000 && (btw x.View.Fp (-549755813888) 549755813887 && x.View.Words.all fun n => btw n (-549755813888) 549755813887)))
end Go.Proofs.YtcomafmiclkmhaaGreatDoor
