/-
  PARSE, PART 2: ParseFrames of the program and of the reference.
-/
import Derived.Test.YtdlkoffandhclaaDoorParse
import Derived.Test.YtdlkoffandhclaaDoorLsFrame
import Derived.Test.YtdlkoffandhclaaDoorBox5
import Derived.BigQuiet
import Derived.Deep.RegionHeld3
import Derived.Deep.RegionLaw
set_option linter.unusedVariables false
set_option linter.unusedSimpArgs false
namespace Go.Proofs.YtdlkoffandhclaaDoor
open Go.RowKit
theorem part_not {l : List UInt8} (h : (cutA 58 [] l).length ≠ 2) : parsePart l = none := by
  unfold parsePart
  split
  · rename_i e; rw [e] at h; exact absurd rfl h
  · rfl
theorem part_two {l a b : List UInt8} (h : cutA 58 [] l = [a, b]) : parsePart l = (parseU b).map fun (n : Nat) => (⟨⟨a.toArray⟩, (n : Int)⟩ : DFrame) := by
  unfold parsePart
  rw [h]
def parseR (s : ByteArray) : List DFrame × Bool := match parseF s with
  | some fs => (fs, true)
  | none => ([], false)
theorem parseR_bad {s : ByteArray} (h : parseL (cutA 59 [] s.data.toList) [] = none) : parseR s = ([], false) := by
  unfold parseR parseF
  rw [h]
theorem parseR_no {s : ByteArray} {fs : List DFrame} (h : parseL (cutA 59 [] s.data.toList) [] = some fs) (h2 : s.size = 0 ∨ fmtF fs ≠ s) : parseR s = ([], false) := by
  unfold parseR parseF
  rw [h]
  simp only
  rw [if_pos h2]
theorem parseR_yes {s : ByteArray} {fs : List DFrame} (h : parseL (cutA 59 [] s.data.toList) [] = some fs) (h1 : s.size ≠ 0) (h2 : fmtF fs = s) : parseR s = (fs, true) := by
  unfold parseR parseF
  rw [h]
  simp only
  rw [if_neg (fun k => k.elim h1 (fun k => k h2))]
theorem parseR_len (s : ByteArray) : (parseR s).1.length ≤ s.size + 1 := by
  unfold parseR
  split
  · rename_i h
    exact parseF_len h
  · simp
theorem strs_len (l : List (List UInt8)) : (strs l).length = l.length := by simp [strs]
theorem strs_get {l : List (List UInt8)} {j : Nat} {x : ByteArray} (h : (strs l)[j]? = some x) : l[j]? = some x.data.toList := by
  unfold strs at h
  rw [List.getElem?_map] at h
  cases hl : l[j]? with
  | none => rw [hl] at h; cases h
  | some y =>
    rw [hl] at h
    simp only [Option.map_some, Option.some.injEq] at h
    subst h
    simp
theorem drop_at {α : Type} {l : List α} {j : Nat} {x : α} (h : l[j]? = some x) : l.drop j = x :: l.drop (j + 1) := by
  obtain ⟨hl, rfl⟩ := List.getElem?_eq_some_iff.1 h
  exact List.drop_eq_getElem_cons hl
theorem two_at {e : TypeId} {w : World} {B : Nat} {A : Option Addr} {n c : Nat} {a b : ByteArray} (h : (strT.sl e).R w B [.slice A n c] [a, b]) :
    ∃ g off, A = some ⟨g, off, none⟩ ∧ w.cell? ⟨g, off, none⟩ = some (.string a) ∧ w.cell? ⟨g, off + 1, none⟩ = some (.string b) ∧ a.size ≤ 9223372036854775807 ∧ b.size ≤ 9223372036854775807 := by
  obtain ⟨g, off, x, rfl, hx, h0, b0⟩ := strs_at h (k := 0) (by simp)
  obtain ⟨g', off', y, hA, hy, h1, b1⟩ := strs_at h (k := 1) (by simp)
  simp only [Option.some.injEq, Addr.mk.injEq, and_true] at hA
  obtain ⟨rfl, rfl⟩ := hA
  simp only [List.getElem?_cons_zero, Option.some.injEq] at hx
  simp only [List.getElem?_cons_succ, List.getElem?_cons_zero, Option.some.injEq] at hy
  subst hx hy
  exact ⟨g, off, rfl, by simpa using h0, h1, b0, b1⟩
theorem two_strs {l : List (List UInt8)} {a b : ByteArray} (h : strs l = [a, b]) : l = [a.data.toList, b.data.toList] := by
  match l, h with
  | [], h => cases h
  | [_], h => cases h
  | [x, y], h =>
    simp only [strs, List.map_cons, List.map_nil, List.cons.injEq, and_true] at h
    obtain ⟨rfl, rfl⟩ := h
    simp
  | _ :: _ :: _ :: _, h => cases h
theorem emp_yes {s : ByteArray} (h : s.size = 0) : s.toList.isEmpty = true := by
  rw [ByteArray.toList_eq, List.isEmpty_iff]
  exact List.length_eq_zero_iff.1 (by rw [dlen]; exact h)
theorem emp_no {s : ByteArray} (h : ¬ s.size = 0) : s.toList.isEmpty = false := by
  rw [ByteArray.toList_eq, ← Bool.not_eq_true, List.isEmpty_iff]
  intro e
  have := dlen s
  rw [e] at this
  simp at this
  omega
def RetParse (x : List DFrame × Bool) (w : World) (r : Ending) (w' : World) : Prop := ∃ A c, r = .returned (.tuple #[.slice A x.1.length c, .bool x.2]) ∧ Fresh (tFrame.sl 50) w w' [.slice A x.1.length c] x.1 ∧ Gro w w'
end Go.Proofs.YtdlkoffandhclaaDoor
