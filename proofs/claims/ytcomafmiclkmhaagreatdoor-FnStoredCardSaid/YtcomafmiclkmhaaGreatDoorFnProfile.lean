/-
  STRUCTS, written by a program (genfun.py): Stacks, Profile: the laws' own toX, szX, eqX.
-/
import Derived.Test.YtcomafmiclkmhaaGreatDoorLsFrame
set_option linter.unusedVariables false
set_option linter.unusedSimpArgs false
namespace Go.Proofs.YtcomafmiclkmhaaGreatDoor
open Go.RowKit
def RetStacks (x : DStacks) (w : World) (r : Ending) (w' : World) : Prop := ∃ A0 c0, r = .returned (.agg #[.slice A0 x.Nodes.length c0]) ∧ Fresh tStacks w w' [.slice A0 x.Nodes.length c0] x ∧ Gro w w'
theorem tStacks_mkOd {w : World} {x : DStacks} {A0 : Option Addr} {c0 : Nat} {S0 : List Nat} (h0 : (tNode.sl 48).O w [.slice A0 x.Nodes.length c0] x.Nodes S0) : tStacks.O w [.slice A0 x.Nodes.length c0] x (S0) := by
  have h : tStacks.O w [.slice A0 x.Nodes.length c0] x S0 := h0
  exact h
theorem tStacks_fresh {w W : World} {x : DStacks} {A0 : Option Addr} {c0 : Nat} {u0 : World} {m0 : Nat} (h0 : Fre (tNode.sl 48) u0 m0 W [.slice A0 x.Nodes.length c0] x.Nodes) (hw0 : w.heap.size ≤ u0.heap.size) : Fresh tStacks w W [.slice A0 x.Nodes.length c0] x := by
  obtain ⟨S0, hO0, hN0, hI0⟩ := h0
  exact ⟨_, tStacks_mkOd hO0, hN0, fun b hb => (by have := hI0 b hb; omega)⟩
theorem eq_DStacks {x y : DStacks} : x = y ↔ x.Nodes = y.Nodes := by
  cases x
  cases y
  simp
def szStacks (x : DStacks) : Nat := szL szNode x.Nodes
def cntStacks (x : DStacks) : Nat := cntNodeS x.Nodes
def mkStacks (x : DStacks) (k : Int) : DStacks := { x with Nodes := mkNodeS x.Nodes k }
def RetProfile (x : DProfile) (w : World) (r : Ending) (w' : World) : Prop := ∃ A0 c0 A1 c1, r = .returned (.agg #[.slice A0 x.Stacks.Nodes.length c0, .slice A1 x.Counts.length c1]) ∧ Fresh tProfile w w' [.slice A0 x.Stacks.Nodes.length c0, .slice A1 x.Counts.length c1] x ∧ Gro w w'
theorem tProfile_mkOd {w : World} {x : DProfile} {A0 : Option Addr} {c0 : Nat} {A1 : Option Addr} {c1 : Nat} {S0 : List Nat} {S1 : List Nat} (h0 : tStacks.O w [.slice A0 x.Stacks.Nodes.length c0] x.Stacks S0) (h1 : (intT.sl 3).O w [.slice A1 x.Counts.length c1] x.Counts S1) : tProfile.O w [.slice A0 x.Stacks.Nodes.length c0, .slice A1 x.Counts.length c1] x (S0 ++ S1) := by
  have h : tProfile.O w [.slice A0 x.Stacks.Nodes.length c0, .slice A1 x.Counts.length c1] x (S0 ++ S1) := ⟨[.slice A0 x.Stacks.Nodes.length c0], [.slice A1 x.Counts.length c1], S0, S1, rfl, rfl, h0, h1⟩
  exact h
theorem tProfile_fresh {w W : World} {x : DProfile} {A0 : Option Addr} {c0 : Nat} {A1 : Option Addr} {c1 : Nat} {u0 u1 : World} {m0 m1 : Nat} (h0 : Fre tStacks u0 m0 W [.slice A0 x.Stacks.Nodes.length c0] x.Stacks) (h1 : Fre (intT.sl 3) u1 m1 W [.slice A1 x.Counts.length c1] x.Counts) (hw0 : w.heap.size ≤ u0.heap.size) (hw1 : w.heap.size ≤ u1.heap.size) (hd0_1 : m0 ≤ u1.heap.size ∨ m1 ≤ u0.heap.size) : Fresh tProfile w W [.slice A0 x.Stacks.Nodes.length c0, .slice A1 x.Counts.length c1] x := by
  obtain ⟨S0, hO0, hN0, hI0⟩ := h0
  obtain ⟨S1, hO1, hN1, hI1⟩ := h1
  exact ⟨_, tProfile_mkOd hO0 hO1, List.nodup_append.2 ⟨hN0, hN1, fun a ha b hb => (by have h1 := hI0 a ha; have h2 := hI1 b hb; omega)⟩, fun b hb => (List.mem_append.1 hb).elim (fun hb => (by have := hI0 b hb; omega)) (fun hb => (by have := hI1 b hb; omega))⟩
theorem eq_DProfile {x y : DProfile} : x = y ↔ x.Stacks = y.Stacks ∧ x.Counts = y.Counts := by
  cases x
  cases y
  simp
def szProfile (x : DProfile) : Nat := szStacks x.Stacks + x.Counts.length
def cntProfile (x : DProfile) : Nat := cntStacks x.Stacks + x.Counts.length
def mkProfile (x : DProfile) (k : Int) : DProfile := { x with Stacks := mkStacks x.Stacks k, Counts := mkInts x.Counts (k + (cntStacks x.Stacks : Nat)) }
end Go.Proofs.YtcomafmiclkmhaaGreatDoor
