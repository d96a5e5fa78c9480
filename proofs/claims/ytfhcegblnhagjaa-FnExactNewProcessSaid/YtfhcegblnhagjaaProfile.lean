/-
  PROFILES: ProfileOk, TotalOf, CountOf of the program and of the reference: what they compute.
-/
import Derived.Test.YtfhcegblnhagjaaStacks2
import Derived.Deep.RegionHeld3
set_option linter.unusedVariables false
set_option linter.unusedSimpArgs false
namespace Go.Proofs.Ytfhcegblnhagjaa
open Go.RowKit
def countsOk : Int → List Int → Bool
  | _, [] => true
  | left, n :: ns => btw n 0 left && countsOk (left - n) ns
def profileOk (p : DProfile) : Bool := stacksOk p.Stacks && (decide (p.Counts.length = p.Stacks.Nodes.length) && countsOk 1000000000000 p.Counts)
def totalOf (p : DProfile) : Int := if profileOk p then p.Counts.sum else 0
def countOf (p : DProfile) (l : List DFrame) : Int := if 0 ≤ findStack p.Stacks l ∧ profileOk p = true then (p.Counts[(findStack p.Stacks l).toNat]?).getD 0 else 0
theorem countsOk_take {L : Int} {ns : List Int} (h : countsOk L ns = true) (hL : 0 ≤ L) (j : Nat) : 0 ≤ (ns.take j).sum ∧ (ns.take j).sum ≤ L := by
  induction ns generalizing L j with
  | nil => simpa using hL
  | cons n ns ih =>
    simp only [countsOk, Bool.and_eq_true, btw_iff] at h
    cases j with
    | zero => simpa using hL
    | succ j =>
      have := ih h.2 (by omega) j
      simp only [List.take_succ_cons, List.sum_cons]
      omega
theorem sum_snoc {xs : List Int} {j : Nat} {x : Int} (h : xs[j]? = some x) : (xs.take (j + 1)).sum = (xs.take j).sum + x := by
  rw [take_snoc h]; simp
end Go.Proofs.Ytfhcegblnhagjaa
