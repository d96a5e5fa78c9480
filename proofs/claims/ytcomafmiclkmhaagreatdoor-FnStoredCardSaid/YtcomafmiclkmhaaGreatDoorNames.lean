/-
  NAMES: NamesOf of the reference.
-/
import Derived.Test.YtcomafmiclkmhaaGreatDoorSortLaw
import Derived.Test.YtcomafmiclkmhaaGreatDoorProfile2
import Derived.Test.YtcomafmiclkmhaaGreatDoorBox4
import Derived.Test.YtcomafmiclkmhaaGreatDoorRing
import Derived.Deep.RegionHeld3
import Derived.Deep.RegionLaw
set_option linter.unusedVariables false
set_option linter.unusedSimpArgs false
namespace Go.Proofs.YtcomafmiclkmhaaGreatDoor
open Go.RowKit
def bl (s : ByteArray) : List UInt8 := s.data.toList
theorem bl_inj {x y : ByteArray} (h : bl x = bl y) : x = y := by
  cases x; cases y; simpa [bl] using h
def rankB (acc : List ByteArray) (s : ByteArray) : Nat := rankL (acc.map bl) (bl s)
def insB (acc : List ByteArray) (s : ByteArray) : List ByteArray := if acc[rankB acc s]? = some s then acc else acc.take (rankB acc s) ++ s :: acc.drop (rankB acc s)
theorem insB_map (acc : List ByteArray) (s : ByteArray) : (insB acc s).map bl = insL (acc.map bl) (bl s) := by
  unfold insB insL
  have e : (acc.map bl)[rankL (acc.map bl) (bl s)]? = some (bl s) ↔ acc[rankB acc s]? = some s := by
    unfold rankB
    rw [List.getElem?_map]
    cases acc[rankL (acc.map bl) (bl s)]? with
    | none => simp
    | some y =>
      simp only [Option.map_some, Option.some.injEq]
      exact ⟨bl_inj, fun h => by rw [h]⟩
  by_cases h : acc[rankB acc s]? = some s
  · rw [if_pos h, if_pos (e.2 h)]
  · rw [if_neg h, if_neg (fun h' => h (e.1 h'))]
    unfold rankB
    simp
theorem foldl_insB (l : List ByteArray) : ∀ acc, (l.foldl insB acc).map bl = (l.map bl).foldl insL (acc.map bl) := by
  induction l with
  | nil => intro acc; rfl
  | cons s l ih => intro acc; simp only [List.foldl_cons, List.map_cons]; rw [ih, insB_map]
theorem insB_len (acc : List ByteArray) (s : ByteArray) : (insB acc s).length ≤ acc.length + 1 := by
  unfold insB
  split
  · omega
  · simp only [List.length_append, List.length_take, List.length_cons, List.length_drop]; omega
theorem rankB_of {acc : List ByteArray} {s : ByteArray} {k : Nat} (h1 : ∀ j x, j < k → acc[j]? = some x → x.data.toList < s.data.toList) (h2 : ∀ x, acc[k]? = some x → ¬ x.data.toList < s.data.toList) (hk : k ≤ acc.length) : rankB acc s = k := by
  refine rankL_of (fun j x hj hx => ?_) (fun x hx => ?_) (by simpa using hk)
  · rw [List.getElem?_map] at hx
    cases hy : acc[j]? with
    | none => rw [hy] at hx; simp at hx
    | some y => rw [hy] at hx; simp at hx; subst hx; exact h1 j y hj hy
  · rw [List.getElem?_map] at hx
    cases hy : acc[k]? with
    | none => rw [hy] at hx; simp at hx
    | some y => rw [hy] at hx; simp at hx; subst hx; exact h2 y hy
theorem insB_at {acc : List ByteArray} {s : ByteArray} {k : Nat} (hr : rankB acc s = k) (h : acc[k]? = some s) : insB acc s = acc := by
  unfold insB
  rw [hr, if_pos h]
theorem insB_new {acc : List ByteArray} {s : ByteArray} {k : Nat} (hr : rankB acc s = k) (h : acc[k]? ≠ some s) : insB acc s = acc.take k ++ s :: acc.drop k := by
  unfold insB
  rw [hr, if_neg h]
theorem toList_dat (s : ByteArray) : s.toList = s.data.toList := ByteArray.toList_eq _
theorem bytes_lt {x y : ByteArray} (h : Op.bytesLess x.toList y.toList = true) : x.data.toList < y.data.toList := by
  rw [bytesLess_dec, toList_dat, toList_dat] at h
  simpa using h
theorem bytes_nlt {x y : ByteArray} (h : Op.bytesLess x.toList y.toList = false) : ¬ x.data.toList < y.data.toList := by
  rw [bytesLess_dec, toList_dat, toList_dat] at h
  simpa using h
def nmTake (ns : List DNode) (j : Nat) : List ByteArray := (ns.take j).map fun x => x.Frame.Name
theorem nmTake_snoc {ns : List DNode} {j : Nat} {x : DNode} (h : ns[j]? = some x) : nmTake ns (j + 1) = nmTake ns j ++ [x.Frame.Name] := by
  unfold nmTake
  rw [take_snoc h, List.map_append]
  rfl
def namesOf (p : DProfile) : List ByteArray := if profileOk p then (p.Stacks.Nodes.map fun x => x.Frame.Name).foldl insB [] else []
end Go.Proofs.YtcomafmiclkmhaaGreatDoor
