/-
  STRUCTS, written by a program (genfun.py): Entry, Delta: the laws' own toX, szX, eqX.
-/
import Derived.Test.YtcomafmiclkmhaaGreatDoorLists
import Derived.Test.YtcomafmiclkmhaaGreatDoorTyEntry
set_option linter.unusedVariables false
set_option linter.unusedSimpArgs false
namespace Go.Proofs.YtcomafmiclkmhaaGreatDoor
open Go.RowKit
def RetEntry (x : DEntry) (w : World) (r : Ending) (w' : World) : Prop := r = .returned (.agg #[.string x.Stack, .int .i64 x.Count]) ∧ Fresh tEntry w w' [.string x.Stack, .int .i64 x.Count] x ∧ Gro w w'
theorem tEntry_mkOd {w : World} {x : DEntry} (h0 : x.Stack.size ≤ 9223372036854775807) (h1 : I64 x.Count) : tEntry.O w [.string x.Stack, .int .i64 x.Count] x ([]) := by
  have h : tEntry.O w [.string x.Stack, .int .i64 x.Count] x ([] ++ []) := ⟨[.string x.Stack], [.int .i64 x.Count], [], [], rfl, rfl, ⟨rfl, h0, rfl⟩, ⟨rfl, h1.1, h1.2, rfl⟩⟩
  simpa using h
theorem tEntry_fresh {w W : World} {x : DEntry} (h0 : x.Stack.size ≤ 9223372036854775807) (h1 : I64 x.Count) : Fresh tEntry w W [.string x.Stack, .int .i64 x.Count] x := by
  exact ⟨_, tEntry_mkOd h0 h1, List.nodup_nil, fun b hb => absurd hb (List.not_mem_nil)⟩
theorem eq_DEntry {x y : DEntry} : x = y ↔ x.Stack = y.Stack ∧ x.Count = y.Count := by
  cases x
  cases y
  simp
def szEntry (x : DEntry) : Nat := x.Stack.size
def RetDelta (x : DDelta) (w : World) (r : Ending) (w' : World) : Prop := r = .returned (.agg #[.string x.Stack, .int .i64 x.Before, .int .i64 x.After]) ∧ Fresh tDelta w w' [.string x.Stack, .int .i64 x.Before, .int .i64 x.After] x ∧ Gro w w'
theorem tDelta_mkOd {w : World} {x : DDelta} (h0 : x.Stack.size ≤ 9223372036854775807) (h1 : I64 x.Before) (h2 : I64 x.After) : tDelta.O w [.string x.Stack, .int .i64 x.Before, .int .i64 x.After] x ([]) := by
  have h : tDelta.O w [.string x.Stack, .int .i64 x.Before, .int .i64 x.After] x ([] ++ ([] ++ [])) := ⟨[.string x.Stack], [.int .i64 x.Before, .int .i64 x.After], [], ([] ++ []), rfl, rfl, ⟨rfl, h0, rfl⟩, ⟨[.int .i64 x.Before], [.int .i64 x.After], [], [], rfl, rfl, ⟨rfl, h1.1, h1.2, rfl⟩, ⟨rfl, h2.1, h2.2, rfl⟩⟩⟩
  simpa using h
theorem tDelta_fresh {w W : World} {x : DDelta} (h0 : x.Stack.size ≤ 9223372036854775807) (h1 : I64 x.Before) (h2 : I64 x.After) : Fresh tDelta w W [.string x.Stack, .int .i64 x.Before, .int .i64 x.After] x := by
  exact ⟨_, tDelta_mkOd h0 h1 h2, List.nodup_nil, fun b hb => absurd hb (List.not_mem_nil)⟩
theorem eq_DDelta {x y : DDelta} : x = y ↔ x.Stack = y.Stack ∧ x.Before = y.Before ∧ x.After = y.After := by
  cases x
  cases y
  simp
def szDelta (x : DDelta) : Nat := x.Stack.size
end Go.Proofs.YtcomafmiclkmhaaGreatDoor
