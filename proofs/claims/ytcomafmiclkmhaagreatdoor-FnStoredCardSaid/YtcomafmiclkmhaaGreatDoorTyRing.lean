/-
  TYPES, written by a program (gentypefile.py): Ring.
-/
import Derived.Test.YtcomafmiclkmhaaGreatDoorProg
import Derived.Test.YtcomafmiclkmhaaGreatDoorOpen
import Derived.KernelRfl
set_option linter.unusedVariables false
set_option linter.unusedSimpArgs false
namespace Go.Proofs.YtcomafmiclkmhaaGreatDoor
open Go.RowKit
structure DRing where
  Capacity : Int
  Records : List ByteArray
  Written : Int
  Lost : Int
  deriving DecidableEq
def tRing : Ty DRing := (intT.prod ((strT.sl 9).prod (intT.prod intT))).via fun x => (x.Capacity, x.Records, x.Written, x.Lost)
theorem tRing_R {w : World} {B : Nat} {cs : List Value} {x : DRing} (h : tRing.R w B cs x) : ∃ A0 c0, cs = [.int .i64 x.Capacity, .slice A0 x.Records.length c0, .int .i64 x.Written, .int .i64 x.Lost] ∧ I64 x.Capacity ∧ (strT.sl 9).R w B [.slice A0 x.Records.length c0] x.Records ∧ I64 x.Written ∧ I64 x.Lost := by
  obtain ⟨_, _, rfl, ⟨rfl, b1_Capacity, b2_Capacity⟩, ⟨_, _, rfl, s_Records, ⟨_, _, rfl, ⟨rfl, b1_Written, b2_Written⟩, ⟨rfl, b1_Lost, b2_Lost⟩⟩⟩⟩ := h
  obtain ⟨A0, c0, rfl, _⟩ := id s_Records
  exact ⟨A0, c0, rfl, ⟨b1_Capacity, b2_Capacity⟩, s_Records, ⟨b1_Written, b2_Written⟩, ⟨b1_Lost, b2_Lost⟩⟩
theorem tRing_mkR {w : World} {B : Nat} {x : DRing} (A0 : Option Addr) (c0 : Nat)  (h0 : I64 x.Capacity) (h1 : (strT.sl 9).R w B [.slice A0 x.Records.length c0] x.Records) (h2 : I64 x.Written) (h3 : I64 x.Lost) : tRing.R w B [.int .i64 x.Capacity, .slice A0 x.Records.length c0, .int .i64 x.Written, .int .i64 x.Lost] x := by
  exact ⟨[.int .i64 x.Capacity], [.slice A0 x.Records.length c0, .int .i64 x.Written, .int .i64 x.Lost], rfl, ⟨rfl, h0.1, h0.2⟩, ⟨[.slice A0 x.Records.length c0], [.int .i64 x.Written, .int .i64 x.Lost], rfl, h1, ⟨[.int .i64 x.Written], [.int .i64 x.Lost], rfl, ⟨rfl, h2.1, h2.2⟩, ⟨rfl, h3.1, h3.2⟩⟩⟩⟩
theorem tRing_O {w : World} {cs : List Value} {x : DRing} {S : List Nat} (h : tRing.O w cs x S) : ∃ A0 c0 S0, cs = [.int .i64 x.Capacity, .slice A0 x.Records.length c0, .int .i64 x.Written, .int .i64 x.Lost] ∧ S = S0 ∧ I64 x.Capacity ∧ (strT.sl 9).O w [.slice A0 x.Records.length c0] x.Records S0 ∧ I64 x.Written ∧ I64 x.Lost := by
  obtain ⟨_, _, _, _, rfl, rfl, ⟨rfl, b1_Capacity, b2_Capacity, rfl⟩, ⟨_, _, _, _, rfl, rfl, s_Records, ⟨_, _, _, _, rfl, rfl, ⟨rfl, b1_Written, b2_Written, rfl⟩, ⟨rfl, b1_Lost, b2_Lost, rfl⟩⟩⟩⟩ := h
  obtain ⟨A0, c0, _, _, rfl, _⟩ := id s_Records
  exact ⟨A0, c0, _, rfl, by simp, ⟨b1_Capacity, b2_Capacity⟩, s_Records, ⟨b1_Written, b2_Written⟩, ⟨b1_Lost, b2_Lost⟩⟩
theorem tRing_mkO {w : World} {x : DRing} (A0 : Option Addr) (c0 : Nat) (S0 : List Nat)  (h0 : I64 x.Capacity) (h1 : (strT.sl 9).O w [.slice A0 x.Records.length c0] x.Records S0) (h2 : I64 x.Written) (h3 : I64 x.Lost) : tRing.O w [.int .i64 x.Capacity, .slice A0 x.Records.length c0, .int .i64 x.Written, .int .i64 x.Lost] x (S0) := by
  have h : tRing.O w [.int .i64 x.Capacity, .slice A0 x.Records.length c0, .int .i64 x.Written, .int .i64 x.Lost] x ([] ++ (S0 ++ ([] ++ []))) := ⟨[.int .i64 x.Capacity], [.slice A0 x.Records.length c0, .int .i64 x.Written, .int .i64 x.Lost], [], (S0 ++ ([] ++ [])), rfl, rfl, ⟨rfl, h0.1, h0.2, rfl⟩, ⟨[.slice A0 x.Records.length c0], [.int .i64 x.Written, .int .i64 x.Lost], S0, ([] ++ []), rfl, rfl, h1, ⟨[.int .i64 x.Written], [.int .i64 x.Lost], [], [], rfl, rfl, ⟨rfl, h2.1, h2.2, rfl⟩, ⟨rfl, h3.1, h3.2, rfl⟩⟩⟩⟩
  simpa using h
end Go.Proofs.YtcomafmiclkmhaaGreatDoor
