/-
  STRUCTS, written by a program (genfun.py): Entry, Delta: the laws' own toX, szX, eqX.
-/
import Derived.Test.YtemeenondbdioaaDoorLists
import Derived.Test.YtemeenondbdioaaDoorTyEntry
set_option linter.unusedVariables false
set_option linter.unusedSimpArgs false
namespace Go.Proofs.YtemeenondbdioaaDoor
open Go.RowKit
def RetEntry (x : DEntry) (w : World) (r : Ending) (w' : World) : Prop := r = .returned (.agg #[.string x.Stack, .int .i64 x.Count]) ∧ Fresh tEntry w w' [.string x.Stack, .int .i64 x.Count] x ∧ Gro w w'
theorem tEntry_mkOd {w : World} {x : DEntry} (h0 : x.Stack.size ≤ 9223372036854775807) (h1 : I64 x.Count) : tEntry.O w [.string x.Stack, .int .i64 x.Count] x ([]) := by
  have h : tEntry.O w [.string x.Stack, .int .i64 x.Count] x ([] ++ []) := ⟨[.string x.Stack], [.int .i64 x.Count], [], [], rfl, rfl, ⟨rfl, h0, rfl⟩, ⟨rfl, h1.1, h1.2, rfl⟩⟩
  simpa using h
theorem tEntry_fresh {w W : World} {x : DEntry} (h0 : x.Stack.size ≤ 9223372036854775807) (h1 : I64 x.Count) : Fresh tEntry w W [.string x.Stack, .int .i64 x.Count] x := by
  exact ⟨_, tEntry_mkOd h0 h1, List.nodup_nil, fun b hb => absurd hb (List.not_mem_nil)⟩
theorem eq_DEntry {x y : DEntry} : x = y ↔ x.Stack = y.Stack ∧ x.Count = y.Count := by
  cases x
  cases y
  simp
def szEntry (x : DEntry) : Nat := x.Stack.size
set_option maxRecDepth 100000 in
theorem toEntry_l {x : DEntry} {w : World} (h0 : x.Stack.size ≤ 9223372036854775807) (h1 : I64 x.Count) (hn : szEntry x ≤ 1099511627776) : Calls Tryd.prog 76 #[.agg #[.string x.Stack, .int .i64 x.Count]] w (RetEntry x w) := by
  unfold szEntry at hn
  go_enter Tryd.func76, Tryd.ntmps76
  go_wp2
  refine bodyPost_ret (v := .agg #[.string x.Stack, .int .i64 x.Count]) (by simp [results, Tryd.results76, go_sem]) rfl ⟨rfl, ?_, (by repeat (first | with_reducible exact Gro.refl _ | with_reducible exact Gro.refl_drew _ _ _ | with_reducible exact Gro.refl_drewN _ _ _ _ | assumption | with_reducible apply Gro.more | with_reducible apply Gro.alloc | with_reducible apply Gro.drew | with_reducible apply Gro.drewN))⟩
  exact ⟨_, tEntry_mkOd h0 h1, List.nodup_nil, fun b hb => absurd hb (List.not_mem_nil)⟩
set_option maxRecDepth 100000 in
theorem szEntry_l {x : DEntry} {w : World} {left : Int} (h0 : x.Stack.size ≤ 9223372036854775807) (h00 : 0 ≤ left) (h01 : left ≤ 1099511627776) : Calls Tryd.prog 74 #[.agg #[.string x.Stack, .int .i64 x.Count], .int .i64 left] w fun e w' => e = .returned (.int .i64 (szRes left (szEntry x))) ∧ Gro w w' := by
  obtain ⟨n0, hn0⟩ : ∃ n, x.Stack.size = n := ⟨_, rfl⟩
  have HS := Lib.hid (show szEntry x = n0 from by unfold szEntry; rw [hn0])
  have HN0 := Lib.hid hn0
  clear hn0
  by_cases c0' : (n0 : Int) ≤ left
  · skip
    have hx0 : x.Stack.size = n0 := HN0.out
    go_enter Tryd.func74, Tryd.ntmps74
    go_wp2
    go_ret
    exact ⟨ret_int (by rw [HS.out]; unfold szRes; rw [if_pos (by omega)] <;> omega), (by repeat (first | with_reducible exact Gro.refl _ | with_reducible exact Gro.refl_drew _ _ _ | with_reducible exact Gro.refl_drewN _ _ _ _ | assumption | with_reducible apply Gro.more | with_reducible apply Gro.alloc | with_reducible apply Gro.drew | with_reducible apply Gro.drewN))⟩
  · have hx0 : x.Stack.size = n0 := HN0.out
    go_enter Tryd.func74, Tryd.ntmps74
    go_wp2
    go_ret
    exact ⟨ret_int (by rw [HS.out]; unfold szRes; rw [if_neg (by omega)]), (by repeat (first | with_reducible exact Gro.refl _ | with_reducible exact Gro.refl_drew _ _ _ | with_reducible exact Gro.refl_drewN _ _ _ _ | assumption | with_reducible apply Gro.more | with_reducible apply Gro.alloc | with_reducible apply Gro.drew | with_reducible apply Gro.drewN))⟩
set_option maxRecDepth 100000 in
theorem eqEntry_l {x y : DEntry} {w : World}  : Calls Tryd.prog 69 #[.agg #[.string x.Stack, .int .i64 x.Count], .agg #[.string y.Stack, .int .i64 y.Count]] w fun e w' => e = .returned (.bool (decide (x = y))) ∧ Gro w w' := by
  go_enter Tryd.func69, Tryd.ntmps69
  go_wp2
  all_goals
    go_ret
    refine ⟨ret_bool ?_, (by repeat (first | with_reducible exact Gro.refl _ | with_reducible exact Gro.refl_drew _ _ _ | with_reducible exact Gro.refl_drewN _ _ _ _ | assumption | with_reducible apply Gro.more | with_reducible apply Gro.alloc | with_reducible apply Gro.drew | with_reducible apply Gro.drewN))⟩
    simp_all [eq_DEntry, toList_inj']
def RetDelta (x : DDelta) (w : World) (r : Ending) (w' : World) : Prop := r = .returned (.agg #[.string x.Stack, .int .i64 x.Before, .int .i64 x.After]) ∧ Fresh tDelta w w' [.string x.Stack, .int .i64 x.Before, .int .i64 x.After] x ∧ Gro w w'
theorem tDelta_mkOd {w : World} {x : DDelta} (h0 : x.Stack.size ≤ 9223372036854775807) (h1 : I64 x.Before) (h2 : I64 x.After) : tDelta.O w [.string x.Stack, .int .i64 x.Before, .int .i64 x.After] x ([]) := by
  have h : tDelta.O w [.string x.Stack, .int .i64 x.Before, .int .i64 x.After] x ([] ++ ([] ++ [])) := ⟨[.string x.Stack], [.int .i64 x.Before, .int .i64 x.After], [], ([] ++ []), rfl, rfl, ⟨rfl, h0, rfl⟩, ⟨[.int .i64 x.Before], [.int .i64 x.After], [], [], rfl, rfl, ⟨rfl, h1.1, h1.2, rfl⟩, ⟨rfl, h2.1, h2.2, rfl⟩⟩⟩
  simpa using h
theorem tDelta_fresh {w W : World} {x : DDelta} (h0 : x.Stack.size ≤ 9223372036854775807) (h1 : I64 x.Before) (h2 : I64 x.After) : Fresh tDelta w W [.string x.Stack, .int .i64 x.Before, .int .i64 x.After] x := by
  exact ⟨_, tDelta_mkOd h0 h1 h2, List.nodup_nil, fun b hb => absurd hb (List.not_mem_nil)⟩
theorem eq_DDelta {x y : DDelta} : x = y ↔ x.Stack = y.Stack ∧ x.Before = y.Before ∧ x.After = y.After := by
  cases x
  cases y
  simp
def szDelta (x : DDelta) : Nat := x.Stack.size
set_option maxRecDepth 100000 in
theorem eqDelta_l {x y : DDelta} {w : World}  : Calls Tryd.prog 83 #[.agg #[.string x.Stack, .int .i64 x.Before, .int .i64 x.After], .agg #[.string y.Stack, .int .i64 y.Before, .int .i64 y.After]] w fun e w' => e = .returned (.bool (decide (x = y))) ∧ Gro w w' := by
  go_enter Tryd.func83, Tryd.ntmps83
  go_wp2
  all_goals
    go_ret
    refine ⟨ret_bool ?_, (by repeat (first | with_reducible exact Gro.refl _ | with_reducible exact Gro.refl_drew _ _ _ | with_reducible exact Gro.refl_drewN _ _ _ _ | assumption | with_reducible apply Gro.more | with_reducible apply Gro.alloc | with_reducible apply Gro.drew | with_reducible apply Gro.drewN))⟩
    simp_all [eq_DDelta, toList_inj']
end Go.Proofs.YtemeenondbdioaaDoor
