/-
  STRUCTS, written by a program (genfun.py): Stacks, Profile: the laws' own toX, szX, eqX.
-/
import Derived.Test.YtbhobjepjaeffaaLsFrame
set_option linter.unusedVariables false
set_option linter.unusedSimpArgs false
namespace Go.Proofs.Ytbhobjepjaeffaa
open Go.RowKit
theorem eq_DStacks {x y : DStacks} : x = y ↔ x.Nodes = y.Nodes := by
  cases x
  cases y
  simp
def szStacks (x : DStacks) : Nat := szL szNode x.Nodes
def cntStacks (x : DStacks) : Nat := cntNodeS x.Nodes
def mkStacks (x : DStacks) (k : Int) : DStacks := { x with Nodes := mkNodeS x.Nodes k }
theorem eq_DProfile {x y : DProfile} : x = y ↔ x.Stacks = y.Stacks ∧ x.Counts = y.Counts := by
  cases x
  cases y
  simp
def szProfile (x : DProfile) : Nat := szStacks x.Stacks + x.Counts.length
def cntProfile (x : DProfile) : Nat := cntStacks x.Stacks + x.Counts.length
def mkProfile (x : DProfile) (k : Int) : DProfile := { x with Stacks := mkStacks x.Stacks k, Counts := mkInts x.Counts (k + (cntStacks x.Stacks : Nat)) }
end Go.Proofs.Ytbhobjepjaeffaa
