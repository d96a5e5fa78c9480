/-
  STRUCTS, written by a program (genfun.py): Frame, Node: the laws' own toX, szX, eqX.
-/
import Derived.Test.YtdlkoffandhclaaGreatDoorLists
import Derived.Test.YtdlkoffandhclaaGreatDoorTyStacks
set_option linter.unusedVariables false
set_option linter.unusedSimpArgs false
namespace Go.Proofs.YtdlkoffandhclaaGreatDoor
open Go.RowKit
def RetFrame (x : DFrame) (w : World) (r : Ending) (w' : World) : Prop := r = .returned (.agg #[.string x.Name, .int .i64 x.Line]) ∧ Fresh tFrame w w' [.string x.Name, .int .i64 x.Line] x ∧ Gro w w'
theorem tFrame_mkOd {w : World} {x : DFrame} (h0 : x.Name.size ≤ 9223372036854775807) (h1 : I64 x.Line) : tFrame.O w [.string x.Name, .int .i64 x.Line] x ([]) := by
  have h : tFrame.O w [.string x.Name, .int .i64 x.Line] x ([] ++ []) := ⟨[.string x.Name], [.int .i64 x.Line], [], [], rfl, rfl, ⟨rfl, h0, rfl⟩, ⟨rfl, h1.1, h1.2, rfl⟩⟩
  simpa using h
theorem tFrame_fresh {w W : World} {x : DFrame} (h0 : x.Name.size ≤ 9223372036854775807) (h1 : I64 x.Line) : Fresh tFrame w W [.string x.Name, .int .i64 x.Line] x := by
  exact ⟨_, tFrame_mkOd h0 h1, List.nodup_nil, fun b hb => absurd hb (List.not_mem_nil)⟩
theorem eq_DFrame {x y : DFrame} : x = y ↔ x.Name = y.Name ∧ x.Line = y.Line := by
  cases x
  cases y
  simp
def szFrame (x : DFrame) : Nat := x.Name.size
set_option maxRecDepth 100000 in
theorem toFrame_l {x : DFrame} {w : World} (h0 : x.Name.size ≤ 9223372036854775807) (h1 : I64 x.Line) (hn : szFrame x ≤ 1099511627776) : Calls Tryz.prog 142 #[.agg #[.string x.Name, .int .i64 x.Line]] w (RetFrame x w) := by
  unfold szFrame at hn
  go_enter Tryz.func142, Tryz.ntmps142
  go_wp2
  refine bodyPost_ret (v := .agg #[.string x.Name, .int .i64 x.Line]) (by simp [results, Tryz.results142, go_sem]) rfl ⟨rfl, ?_, (by repeat (first | with_reducible exact Gro.refl _ | with_reducible exact Gro.refl_drew _ _ _ | with_reducible exact Gro.refl_drewN _ _ _ _ | assumption | with_reducible apply Gro.more | with_reducible apply Gro.alloc | with_reducible apply Gro.drew | with_reducible apply Gro.drewN))⟩
  exact ⟨_, tFrame_mkOd h0 h1, List.nodup_nil, fun b hb => absurd hb (List.not_mem_nil)⟩
set_option maxRecDepth 100000 in
theorem szFrame_l {x : DFrame} {w : World} {left : Int} (h0 : x.Name.size ≤ 9223372036854775807) (h00 : 0 ≤ left) (h01 : left ≤ 1099511627776) : Calls Tryz.prog 140 #[.agg #[.string x.Name, .int .i64 x.Line], .int .i64 left] w fun e w' => e = .returned (.int .i64 (szRes left (szFrame x))) ∧ Gro w w' := by
  obtain ⟨n0, hn0⟩ : ∃ n, x.Name.size = n := ⟨_, rfl⟩
  have HS := Lib.hid (show szFrame x = n0 from by unfold szFrame; rw [hn0])
  have HN0 := Lib.hid hn0
  clear hn0
  by_cases c0' : (n0 : Int) ≤ left
  · skip
    have hx0 : x.Name.size = n0 := HN0.out
    go_enter Tryz.func140, Tryz.ntmps140
    go_wp2
    go_ret
    exact ⟨ret_int (by rw [HS.out]; unfold szRes; rw [if_pos (by omega)] <;> omega), (by repeat (first | with_reducible exact Gro.refl _ | with_reducible exact Gro.refl_drew _ _ _ | with_reducible exact Gro.refl_drewN _ _ _ _ | assumption | with_reducible apply Gro.more | with_reducible apply Gro.alloc | with_reducible apply Gro.drew | with_reducible apply Gro.drewN))⟩
  · have hx0 : x.Name.size = n0 := HN0.out
    go_enter Tryz.func140, Tryz.ntmps140
    go_wp2
    go_ret
    exact ⟨ret_int (by rw [HS.out]; unfold szRes; rw [if_neg (by omega)]), (by repeat (first | with_reducible exact Gro.refl _ | with_reducible exact Gro.refl_drew _ _ _ | with_reducible exact Gro.refl_drewN _ _ _ _ | assumption | with_reducible apply Gro.more | with_reducible apply Gro.alloc | with_reducible apply Gro.drew | with_reducible apply Gro.drewN))⟩
set_option maxRecDepth 100000 in
theorem eqFrame_l {x y : DFrame} {w : World}  : Calls Tryz.prog 143 #[.agg #[.string x.Name, .int .i64 x.Line], .agg #[.string y.Name, .int .i64 y.Line]] w fun e w' => e = .returned (.bool (decide (x = y))) ∧ Gro w w' := by
  go_enter Tryz.func143, Tryz.ntmps143
  go_wp2
  all_goals
    go_ret
    refine ⟨ret_bool ?_, (by repeat (first | with_reducible exact Gro.refl _ | with_reducible exact Gro.refl_drew _ _ _ | with_reducible exact Gro.refl_drewN _ _ _ _ | assumption | with_reducible apply Gro.more | with_reducible apply Gro.alloc | with_reducible apply Gro.drew | with_reducible apply Gro.drewN))⟩
    simp_all [eq_DFrame, toList_inj']
def RetNode (x : DNode) (w : World) (r : Ending) (w' : World) : Prop := r = .returned (.agg #[.int .i64 x.Parent, .string x.Frame.Name, .int .i64 x.Frame.Line]) ∧ Fresh tNode w w' [.int .i64 x.Parent, .string x.Frame.Name, .int .i64 x.Frame.Line] x ∧ Gro w w'
theorem tNode_mkOd {w : World} {x : DNode} {S1 : List Nat} (h0 : I64 x.Parent) (h1 : tFrame.O w [.string x.Frame.Name, .int .i64 x.Frame.Line] x.Frame S1) : tNode.O w [.int .i64 x.Parent, .string x.Frame.Name, .int .i64 x.Frame.Line] x (S1) := by
  have h : tNode.O w [.int .i64 x.Parent, .string x.Frame.Name, .int .i64 x.Frame.Line] x ([] ++ S1) := ⟨[.int .i64 x.Parent], [.string x.Frame.Name, .int .i64 x.Frame.Line], [], S1, rfl, rfl, ⟨rfl, h0.1, h0.2, rfl⟩, h1⟩
  simpa using h
theorem tNode_fresh {w W : World} {x : DNode} {u1 : World} {m1 : Nat} (h0 : I64 x.Parent) (h1 : Fre tFrame u1 m1 W [.string x.Frame.Name, .int .i64 x.Frame.Line] x.Frame) (hw1 : w.heap.size ≤ u1.heap.size) : Fresh tNode w W [.int .i64 x.Parent, .string x.Frame.Name, .int .i64 x.Frame.Line] x := by
  obtain ⟨S1, hO1, hN1, hI1⟩ := h1
  exact ⟨_, tNode_mkOd h0 hO1, hN1, fun b hb => (by have := hI1 b hb; omega)⟩
theorem eq_DNode {x y : DNode} : x = y ↔ x.Parent = y.Parent ∧ x.Frame = y.Frame := by
  cases x
  cases y
  simp
def szNode (x : DNode) : Nat := szFrame x.Frame
set_option maxRecDepth 100000 in
theorem toNode_l {x : DNode} {w : World} (h0 : I64 x.Parent) (h1 : x.Frame.Name.size ≤ 9223372036854775807) (h2 : I64 x.Frame.Line) (hn : szNode x ≤ 1099511627776) : Calls Tryz.prog 105 #[.agg #[.int .i64 x.Parent, .string x.Frame.Name, .int .i64 x.Frame.Line]] w (RetNode x w) := by
  unfold szNode at hn
  go_enter Tryz.func105, Tryz.ntmps105
  go_wp2_with (first
      | (go_at_call 142; (with_reducible refine (toFrame_l (x := x.Frame) h1 h2 (by omega)).mono ?_); rintro e w1 ⟨rfl, hF1, os1, dd1, rfl⟩))
  refine bodyPost_ret (v := .agg #[.int .i64 x.Parent, .string x.Frame.Name, .int .i64 x.Frame.Line]) (by simp [results, Tryz.results105, go_sem]) rfl ⟨rfl, ?_, (by repeat (first | with_reducible exact Gro.refl _ | with_reducible exact Gro.refl_drew _ _ _ | with_reducible exact Gro.refl_drewN _ _ _ _ | assumption | with_reducible apply Gro.more | with_reducible apply Gro.alloc | with_reducible apply Gro.drew | with_reducible apply Gro.drewN))⟩
  obtain ⟨S1, hO1, hN1, hL1⟩ := hF1
  have hU1 := Ty.ltO _ hO1
  have hL1' := hL1
  simp at hL1' hU1
  exact ⟨_, tNode_mkOd h0 (Ty.same _ hO1 hL1 (by repeat (first | with_reducible exact Same.refl _ _ _ | ((with_reducible refine Same.base ?_ ?_) <;> (simp <;> omega)) | ((with_reducible refine Same.more ?_ ?_ _ _); rotate_left; simp <;> omega) | ((with_reducible refine Same.alloc ?_ ?_ _); rotate_left; simp <;> omega) | with_reducible apply Same.drew | with_reducible apply Same.drewN))), hN1, fun b hb => (by have := hL1' b hb; omega)⟩
set_option maxRecDepth 100000 in
theorem szNode_l {x : DNode} {w : World} {left : Int} (h1 : x.Frame.Name.size ≤ 9223372036854775807) (h00 : 0 ≤ left) (h01 : left ≤ 1099511627776) : Calls Tryz.prog 101 #[.agg #[.int .i64 x.Parent, .string x.Frame.Name, .int .i64 x.Frame.Line], .int .i64 left] w fun e w' => e = .returned (.int .i64 (szRes left (szNode x))) ∧ Gro w w' := by
  obtain ⟨n0, hn0⟩ : ∃ n, szFrame x.Frame = n := ⟨_, rfl⟩
  have HS := Lib.hid (show szNode x = n0 from by unfold szNode; rw [hn0])
  have HN0 := Lib.hid hn0
  clear hn0
  by_cases c0' : (n0 : Int) ≤ left
  · skip
    have e0 : szRes (left) n0 = left - (n0 : Nat) := if_pos (by omega)
    go_enter Tryz.func101, Tryz.ntmps101
    go_wp2_with (first
      | (go_at_call 140; (with_reducible refine (szFrame_l (x := x.Frame) h1 (by omega) (by omega)).mono ?_); rintro e w0 ⟨rfl, os0, d0, rfl⟩; rw [HN0.out]))
    go_ret
    exact ⟨ret_int (by rw [HS.out]; unfold szRes; rw [if_pos (by omega)] <;> omega), (by repeat (first | with_reducible exact Gro.refl _ | with_reducible exact Gro.refl_drew _ _ _ | with_reducible exact Gro.refl_drewN _ _ _ _ | assumption | with_reducible apply Gro.more | with_reducible apply Gro.alloc | with_reducible apply Gro.drew | with_reducible apply Gro.drewN))⟩
  · have e0 : szRes (left) n0 = -1 := if_neg (by omega)
    go_enter Tryz.func101, Tryz.ntmps101
    go_wp2_with (first
      | (go_at_call 140; (with_reducible refine (szFrame_l (x := x.Frame) h1 (by omega) (by omega)).mono ?_); rintro e w0 ⟨rfl, os0, d0, rfl⟩; rw [HN0.out]))
    go_ret
    exact ⟨ret_int (by rw [HS.out]; unfold szRes; rw [if_neg (by omega)]), (by repeat (first | with_reducible exact Gro.refl _ | with_reducible exact Gro.refl_drew _ _ _ | with_reducible exact Gro.refl_drewN _ _ _ _ | assumption | with_reducible apply Gro.more | with_reducible apply Gro.alloc | with_reducible apply Gro.drew | with_reducible apply Gro.drewN))⟩
set_option maxRecDepth 100000 in
theorem eqNode_l {x y : DNode} {w : World}  : Calls Tryz.prog 106 #[.agg #[.int .i64 x.Parent, .string x.Frame.Name, .int .i64 x.Frame.Line], .agg #[.int .i64 y.Parent, .string y.Frame.Name, .int .i64 y.Frame.Line]] w fun e w' => e = .returned (.bool (decide (x = y))) ∧ Gro w w' := by
  go_enter Tryz.func106, Tryz.ntmps106
  go_wp2_with (first
      | (go_at_call 143; (with_reducible refine (eqFrame_l (x := x.Frame) (y := y.Frame) ).mono ?_); rintro e w1 ⟨rfl, os1, d1, rfl⟩))
  all_goals
    go_ret
    refine ⟨ret_bool ?_, (by repeat (first | with_reducible exact Gro.refl _ | with_reducible exact Gro.refl_drew _ _ _ | with_reducible exact Gro.refl_drewN _ _ _ _ | assumption | with_reducible apply Gro.more | with_reducible apply Gro.alloc | with_reducible apply Gro.drew | with_reducible apply Gro.drewN))⟩
    simp_all [eq_DNode]
end Go.Proofs.YtdlkoffandhclaaGreatDoor
