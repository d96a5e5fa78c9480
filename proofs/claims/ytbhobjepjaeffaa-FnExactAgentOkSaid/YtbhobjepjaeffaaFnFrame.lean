/-
  STRUCTS, written by a program (genfun.py): Frame, Node: the laws' own toX, szX, eqX.
-/
import Derived.Test.YtbhobjepjaeffaaLists
import Derived.Test.YtbhobjepjaeffaaTyStacks
set_option linter.unusedVariables false
set_option linter.unusedSimpArgs false
namespace Go.Proofs.Ytbhobjepjaeffaa
open Go.RowKit
def RetFrame (x : DFrame) (w : World) (r : Ending) (w' : World) : Prop := r = .returned (.agg #[.string x.Name, .int .i64 x.Line]) ∧ Fresh tFrame w w' [.string x.Name, .int .i64 x.Line] x ∧ Gro w w'
theorem tFrame_mkOd {w : World} {x : DFrame} (h0 : x.Name.size ≤ 9223372036854775807) (h1 : I64 x.Line) : tFrame.O w [.string x.Name, .int .i64 x.Line] x ([]) := by
  have h : tFrame.O w [.string x.Name, .int .i64 x.Line] x ([] ++ []) := ⟨[.string x.Name], [.int .i64 x.Line], [], [], rfl, rfl, ⟨rfl, h0, rfl⟩, ⟨rfl, h1.1, h1.2, rfl⟩⟩
  simpa using h
theorem tFrame_fresh {w W : World} {x : DFrame} (h0 : x.Name.size ≤ 9223372036854775807) (h1 : I64 x.Line) : Fresh tFrame w W [.string x.Name, .int .i64 x.Line] x := by
  exact ⟨_, tFrame_mkOd h0 h1, List.nodup_nil, fun b hb => absurd hb (List.not_mem_nil)⟩
theorem eq_DFrame {x y : DFrame} : x = y ↔ x.Name = y.Name ∧ x.Line = y.Line := by
  cases x
  cases y
  simp
def szFrame (x : DFrame) : Nat := x.Name.size
def RetNode (x : DNode) (w : World) (r : Ending) (w' : World) : Prop := r = .returned (.agg #[.int .i64 x.Parent, .string x.Frame.Name, .int .i64 x.Frame.Line]) ∧ Fresh tNode w w' [.int .i64 x.Parent, .string x.Frame.Name, .int .i64 x.Frame.Line] x ∧ Gro w w'
theorem tNode_mkOd {w : World} {x : DNode} {S1 : List Nat} (h0 : I64 x.Parent) (h1 : tFrame.O w [.string x.Frame.Name, .int .i64 x.Frame.Line] x.Frame S1) : tNode.O w [.int .i64 x.Parent, .string x.Frame.Name, .int .i64 x.Frame.Line] x (S1) := by
  have h : tNode.O w [.int .i64 x.Parent, .string x.Frame.Name, .int .i64 x.Frame.Line] x ([] ++ S1) := ⟨[.int .i64 x.Parent], [.string x.Frame.Name, .int .i64 x.Frame.Line], [], S1, rfl, rfl, ⟨rfl, h0.1, h0.2, rfl⟩, h1⟩
  simpa using h
theorem tNode_fresh {w W : World} {x : DNode} {u1 : World} {m1 : Nat} (h0 : I64 x.Parent) (h1 : Fre tFrame u1 m1 W [.string x.Frame.Name, .int .i64 x.Frame.Line] x.Frame) (hw1 : w.heap.size ≤ u1.heap.size) : Fresh tNode w W [.int .i64 x.Parent, .string x.Frame.Name, .int .i64 x.Frame.Line] x := by
  obtain ⟨S1, hO1, hN1, hI1⟩ := h1
  exact ⟨_, tNode_mkOd h0 hO1, hN1, fun b hb => (by have := hI1 b hb; omega)⟩
theorem eq_DNode {x y : DNode} : x = y ↔ x.Parent = y.Parent ∧ x.Frame = y.Frame := by
  cases x
  cases y
  simp
def szNode (x : DNode) : Nat := szFrame x.Frame
end Go.Proofs.Ytbhobjepjaeffaa
