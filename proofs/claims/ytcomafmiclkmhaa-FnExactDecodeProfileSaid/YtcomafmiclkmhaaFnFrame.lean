/-
  STRUCTS, written by a program (genfun.py): Frame, Node: the laws' own toX, szX, eqX.
-/
import Derived.Test.YtcomafmiclkmhaaLists
import Derived.Test.YtcomafmiclkmhaaTyStacks
set_option linter.unusedVariables false
set_option linter.unusedSimpArgs false
namespace Go.Proofs.Ytcomafmiclkmhaa
open Go.RowKit
def RetFrame (x : DFrame) (w : World) (r : Ending) (w' : World) : Prop := r = .returned (.agg #[.string x.Name, .int .i64 x.Line]) ∧ Fresh tFrame w w' [.string x.Name, .int .i64 x.Line] x ∧ Gro w w'
theorem tFrame_mkOd {w : World} {x : DFrame} (h0 : x.Name.size ≤ 9223372036854775807) (h1 : I64 x.Line) : tFrame.O w [.string x.Name, .int .i64 x.Line] x ([]) := by
  have h : tFrame.O w [.string x.Name, .int .i64 x.Line] x ([] ++ []) := ⟨[.string x.Name], [.int .i64 x.Line], [], [], rfl, rfl, ⟨rfl, h0, rfl⟩, ⟨rfl, h1.1, h1.2, rfl⟩⟩
  simpa using h
theorem tFrame_fresh {w W : World} {x : DFrame} (h0 : x.Name.size ≤ 9223372036854775807) (h1 : I64 x.Line) : Fresh tFrame w W [.string x.Name, .int .i64 x.Line] x := by
  exact ⟨_, tFrame_mkOd h0 h1, List.nodup_nil, fun b hb => absurd hb (List.not_mem_nil)⟩
theorem eq_DFrame {x y : DFrame} : x = y ↔ x.Name = y.Name ∧ x.Line = y.Line := by
  cases x
  cases y
  simp
def szFrame (x : DFrame) : Nat := x.Name.size
set_option maxRecDepth 100000 in
theorem eqFrame_l {x y : DFrame} {w : World}  : Calls Try.prog 49 #[.agg #[.string x.Name, .int .i64 x.Line], .agg #[.string y.Name, .int .i64 y.Line]] w fun e w' => e = .returned (.bool (decide (x = y))) ∧ Gro w w' := by
  go_enter Try.func49, Try.ntmps49
  go_wp2
  all_goals
    go_ret
    refine ⟨ret_bool ?_, (by repeat (first | with_reducible exact Gro.refl _ | with_reducible exact Gro.refl_drew _ _ _ | with_reducible exact Gro.refl_drewN _ _ _ _ | assumption | with_reducible apply Gro.more | with_reducible apply Gro.alloc | with_reducible apply Gro.drew | with_reducible apply Gro.drewN))⟩
    simp_all [eq_DFrame, toList_inj']
def RetNode (x : DNode) (w : World) (r : Ending) (w' : World) : Prop := r = .returned (.agg #[.int .i64 x.Parent, .string x.Frame.Name, .int .i64 x.Frame.Line]) ∧ Fresh tNode w w' [.int .i64 x.Parent, .string x.Frame.Name, .int .i64 x.Frame.Line] x ∧ Gro w w'
theorem tNode_mkOd {w : World} {x : DNode} {S1 : List Nat} (h0 : I64 x.Parent) (h1 : tFrame.O w [.string x.Frame.Name, .int .i64 x.Frame.Line] x.Frame S1) : tNode.O w [.int .i64 x.Parent, .string x.Frame.Name, .int .i64 x.Frame.Line] x (S1) := by
  have h : tNode.O w [.int .i64 x.Parent, .string x.Frame.Name, .int .i64 x.Frame.Line] x ([] ++ S1) := ⟨[.int .i64 x.Parent], [.string x.Frame.Name, .int .i64 x.Frame.Line], [], S1, rfl, rfl, ⟨rfl, h0.1, h0.2, rfl⟩, h1⟩
  simpa using h
theorem tNode_fresh {w W : World} {x : DNode} {u1 : World} {m1 : Nat} (h0 : I64 x.Parent) (h1 : Fre tFrame u1 m1 W [.string x.Frame.Name, .int .i64 x.Frame.Line] x.Frame) (hw1 : w.heap.size ≤ u1.heap.size) : Fresh tNode w W [.int .i64 x.Parent, .string x.Frame.Name, .int .i64 x.Frame.Line] x := by
  obtain ⟨S1, hO1, hN1, hI1⟩ := h1
  exact ⟨_, tNode_mkOd h0 hO1, hN1, fun b hb => (by have := hI1 b hb; omega)⟩
theorem eq_DNode {x y : DNode} : x = y ↔ x.Parent = y.Parent ∧ x.Frame = y.Frame := by
  cases x
  cases y
  simp
def szNode (x : DNode) : Nat := szFrame x.Frame
set_option maxRecDepth 100000 in
theorem eqNode_l {x y : DNode} {w : World}  : Calls Try.prog 43 #[.agg #[.int .i64 x.Parent, .string x.Frame.Name, .int .i64 x.Frame.Line], .agg #[.int .i64 y.Parent, .string y.Frame.Name, .int .i64 y.Frame.Line]] w fun e w' => e = .returned (.bool (decide (x = y))) ∧ Gro w w' := by
  go_enter Try.func43, Try.ntmps43
  go_wp2_with (first
      | (go_at_call 49; (with_reducible refine (eqFrame_l (x := x.Frame) (y := y.Frame) ).mono ?_); rintro e w1 ⟨rfl, os1, d1, rfl⟩))
  all_goals
    go_ret
    refine ⟨ret_bool ?_, (by repeat (first | with_reducible exact Gro.refl _ | with_reducible exact Gro.refl_drew _ _ _ | with_reducible exact Gro.refl_drewN _ _ _ _ | assumption | with_reducible apply Gro.more | with_reducible apply Gro.alloc | with_reducible apply Gro.drew | with_reducible apply Gro.drewN))⟩
    simp_all [eq_DNode]
end Go.Proofs.Ytcomafmiclkmhaa
