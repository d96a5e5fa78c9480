/-
  RINGS: bytesOf, RingOk, copyRing, PutRecord, TakeRecords, RingBytes of the program and of the reference: what they compute.
-/
import Derived.Test.YtcomafmiclkmhaaGreatDoorFnRing
import Derived.Test.YtcomafmiclkmhaaGreatDoorAppend
set_option linter.unusedVariables false
set_option linter.unusedSimpArgs false
namespace Go.Proofs.YtcomafmiclkmhaaGreatDoor
open Go.RowKit
def sumS (rs : List ByteArray) : Nat := (rs.map ByteArray.size).sum
def ringOk (r : DRing) : Bool := r.Records.all (fun s => !(s.toList == [])) && (btw r.Capacity 0 100000 && (decide ((sumS r.Records : Int) ≤ r.Capacity) && (btw r.Written r.Records.length 1000000000000 && btw r.Lost 0 1000000000000)))
theorem all_take_succ {α : Type} {xs : List α} {f : α → Bool} {j : Nat} {x : α} (h : xs[j]? = some x) (ha : (xs.take j).all f = true) (hf : f x = true) : (xs.take (j + 1)).all f = true := by
  rw [take_snoc h, List.all_append, ha]
  simp [hf]
theorem all_false {α : Type} {xs : List α} {f : α → Bool} {j : Nat} {x : α} (h : xs[j]? = some x) (hf : f x = false) : xs.all f = false := by
  rw [List.all_eq_false]
  exact ⟨x, List.mem_of_getElem? h, by simp [hf]⟩
theorem el_str : Elem Tryz.prog 36 9 strT 16 := by
  obtain ⟨i0, hi, hz0, hz1, hz2⟩ := info_parts toStringS_info
  exact ⟨Tryz.underlying36, ⟨i0, _, hi, hz0, hz1, hz2, rfl⟩, by decide⟩
end Go.Proofs.YtcomafmiclkmhaaGreatDoor
