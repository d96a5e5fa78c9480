/-
  STRUCTS, written by a program (genfun.py): Ring: the laws' own toX, szX, eqX.
-/
import Derived.Test.YtcomafmiclkmhaaGreatDoorLists
import Derived.Test.YtcomafmiclkmhaaGreatDoorTyRing
set_option linter.unusedVariables false
set_option linter.unusedSimpArgs false
namespace Go.Proofs.YtcomafmiclkmhaaGreatDoor
open Go.RowKit
def RetRing (x : DRing) (w : World) (r : Ending) (w' : World) : Prop := ∃ A0 c0, r = .returned (.agg #[.int .i64 x.Capacity, .slice A0 x.Records.length c0, .int .i64 x.Written, .int .i64 x.Lost]) ∧ Fresh tRing w w' [.int .i64 x.Capacity, .slice A0 x.Records.length c0, .int .i64 x.Written, .int .i64 x.Lost] x ∧ Gro w w'
theorem tRing_mkOd {w : World} {x : DRing} {A0 : Option Addr} {c0 : Nat} {S1 : List Nat} (h0 : I64 x.Capacity) (h1 : (strT.sl 9).O w [.slice A0 x.Records.length c0] x.Records S1) (h2 : I64 x.Written) (h3 : I64 x.Lost) : tRing.O w [.int .i64 x.Capacity, .slice A0 x.Records.length c0, .int .i64 x.Written, .int .i64 x.Lost] x (S1) := by
  have h : tRing.O w [.int .i64 x.Capacity, .slice A0 x.Records.length c0, .int .i64 x.Written, .int .i64 x.Lost] x ([] ++ (S1 ++ ([] ++ []))) := ⟨[.int .i64 x.Capacity], [.slice A0 x.Records.length c0, .int .i64 x.Written, .int .i64 x.Lost], [], (S1 ++ ([] ++ [])), rfl, rfl, ⟨rfl, h0.1, h0.2, rfl⟩, ⟨[.slice A0 x.Records.length c0], [.int .i64 x.Written, .int .i64 x.Lost], S1, ([] ++ []), rfl, rfl, h1, ⟨[.int .i64 x.Written], [.int .i64 x.Lost], [], [], rfl, rfl, ⟨rfl, h2.1, h2.2, rfl⟩, ⟨rfl, h3.1, h3.2, rfl⟩⟩⟩⟩
  simpa using h
theorem tRing_fresh {w W : World} {x : DRing} {A0 : Option Addr} {c0 : Nat} {u1 : World} {m1 : Nat} (h0 : I64 x.Capacity) (h1 : Fre (strT.sl 9) u1 m1 W [.slice A0 x.Records.length c0] x.Records) (h2 : I64 x.Written) (h3 : I64 x.Lost) (hw1 : w.heap.size ≤ u1.heap.size) : Fresh tRing w W [.int .i64 x.Capacity, .slice A0 x.Records.length c0, .int .i64 x.Written, .int .i64 x.Lost] x := by
  obtain ⟨S1, hO1, hN1, hI1⟩ := h1
  exact ⟨_, tRing_mkOd h0 hO1 h2 h3, hN1, fun b hb => (by have := hI1 b hb; omega)⟩
theorem eq_DRing {x y : DRing} : x = y ↔ x.Capacity = y.Capacity ∧ x.Records = y.Records ∧ x.Written = y.Written ∧ x.Lost = y.Lost := by
  cases x
  cases y
  simp
def szRing (x : DRing) : Nat := szL ByteArray.size x.Records
def cntRing (x : DRing) : Nat := x.Records.length
def mkRing (x : DRing) (k : Int) : DRing := { x with Records := mkStrs x.Records k }
end Go.Proofs.YtcomafmiclkmhaaGreatDoor
