/-
  TYPES, written by a program (gentypefile.py): Entry, Delta.
-/
import Derived.Test.YtcomafmiclkmhaaGreatDoorProg
import Derived.Test.YtcomafmiclkmhaaGreatDoorOpen
import Derived.KernelRfl
set_option linter.unusedVariables false
set_option linter.unusedSimpArgs false
namespace Go.Proofs.YtcomafmiclkmhaaGreatDoor
open Go.RowKit
structure DEntry where
  Stack : ByteArray
  Count : Int
  deriving DecidableEq
def tEntry : Ty DEntry := (strT.prod intT).via fun x => (x.Stack, x.Count)
theorem tEntry_R {w : World} {B : Nat} {cs : List Value} {x : DEntry} (h : tEntry.R w B cs x) : cs = [.string x.Stack, .int .i64 x.Count] ∧ x.Stack.size ≤ 9223372036854775807 ∧ I64 x.Count := by
  obtain ⟨_, _, rfl, ⟨rfl, b1_Stack⟩, ⟨rfl, b1_Count, b2_Count⟩⟩ := h
  exact ⟨rfl, b1_Stack, ⟨b1_Count, b2_Count⟩⟩
theorem tEntry_mkR {w : World} {B : Nat} {x : DEntry}  (h0 : x.Stack.size ≤ 9223372036854775807) (h1 : I64 x.Count) : tEntry.R w B [.string x.Stack, .int .i64 x.Count] x := by
  exact ⟨[.string x.Stack], [.int .i64 x.Count], rfl, ⟨rfl, h0⟩, ⟨rfl, h1.1, h1.2⟩⟩
theorem tEntry_O {w : World} {cs : List Value} {x : DEntry} {S : List Nat} (h : tEntry.O w cs x S) : cs = [.string x.Stack, .int .i64 x.Count] ∧ S = [] ∧ x.Stack.size ≤ 9223372036854775807 ∧ I64 x.Count := by
  obtain ⟨_, _, _, _, rfl, rfl, ⟨rfl, b1_Stack, rfl⟩, ⟨rfl, b1_Count, b2_Count, rfl⟩⟩ := h
  exact ⟨rfl, rfl, b1_Stack, ⟨b1_Count, b2_Count⟩⟩
theorem tEntry_mkO {w : World} {x : DEntry}  (h0 : x.Stack.size ≤ 9223372036854775807) (h1 : I64 x.Count) : tEntry.O w [.string x.Stack, .int .i64 x.Count] x ([]) := by
  exact ⟨[.string x.Stack], [.int .i64 x.Count], [], [], rfl, rfl, ⟨rfl, h0, rfl⟩, ⟨rfl, h1.1, h1.2, rfl⟩⟩
structure DDelta where
  Stack : ByteArray
  Before : Int
  After : Int
  deriving DecidableEq
def tDelta : Ty DDelta := (strT.prod (intT.prod intT)).via fun x => (x.Stack, x.Before, x.After)
theorem tDelta_R {w : World} {B : Nat} {cs : List Value} {x : DDelta} (h : tDelta.R w B cs x) : cs = [.string x.Stack, .int .i64 x.Before, .int .i64 x.After] ∧ x.Stack.size ≤ 9223372036854775807 ∧ I64 x.Before ∧ I64 x.After := by
  obtain ⟨_, _, rfl, ⟨rfl, b1_Stack⟩, ⟨_, _, rfl, ⟨rfl, b1_Before, b2_Before⟩, ⟨rfl, b1_After, b2_After⟩⟩⟩ := h
  exact ⟨rfl, b1_Stack, ⟨b1_Before, b2_Before⟩, ⟨b1_After, b2_After⟩⟩
theorem tDelta_mkR {w : World} {B : Nat} {x : DDelta}  (h0 : x.Stack.size ≤ 9223372036854775807) (h1 : I64 x.Before) (h2 : I64 x.After) : tDelta.R w B [.string x.Stack, .int .i64 x.Before, .int .i64 x.After] x := by
  exact ⟨[.string x.Stack], [.int .i64 x.Before, .int .i64 x.After], rfl, ⟨rfl, h0⟩, ⟨[.int .i64 x.Before], [.int .i64 x.After], rfl, ⟨rfl, h1.1, h1.2⟩, ⟨rfl, h2.1, h2.2⟩⟩⟩
theorem tDelta_O {w : World} {cs : List Value} {x : DDelta} {S : List Nat} (h : tDelta.O w cs x S) : cs = [.string x.Stack, .int .i64 x.Before, .int .i64 x.After] ∧ S = [] ∧ x.Stack.size ≤ 9223372036854775807 ∧ I64 x.Before ∧ I64 x.After := by
  obtain ⟨_, _, _, _, rfl, rfl, ⟨rfl, b1_Stack, rfl⟩, ⟨_, _, _, _, rfl, rfl, ⟨rfl, b1_Before, b2_Before, rfl⟩, ⟨rfl, b1_After, b2_After, rfl⟩⟩⟩ := h
  exact ⟨rfl, rfl, b1_Stack, ⟨b1_Before, b2_Before⟩, ⟨b1_After, b2_After⟩⟩
theorem tDelta_mkO {w : World} {x : DDelta}  (h0 : x.Stack.size ≤ 9223372036854775807) (h1 : I64 x.Before) (h2 : I64 x.After) : tDelta.O w [.string x.Stack, .int .i64 x.Before, .int .i64 x.After] x ([]) := by
  exact ⟨[.string x.Stack], [.int .i64 x.Before, .int .i64 x.After], [], ([] ++ []), rfl, rfl, ⟨rfl, h0, rfl⟩, ⟨[.int .i64 x.Before], [.int .i64 x.After], [], [], rfl, rfl, ⟨rfl, h1.1, h1.2, rfl⟩, ⟨rfl, h2.1, h2.2, rfl⟩⟩⟩
end Go.Proofs.YtcomafmiclkmhaaGreatDoor
