/-
  MARK: plain words for the laws' marks: a marked copy of a list (mkL), how many marks (cntL). No program in sight.
-/
import Derived.Test.YtbhobjepjaeffaaBase
set_option linter.unusedVariables false
set_option linter.unusedSimpArgs false
namespace Go.Proofs.Ytbhobjepjaeffaa
section
variable {α : Type}
def cntL (cnt : α → Nat) (xs : List α) : Nat := (xs.map cnt).sum
def mkL (mk : α → Int → α) (cnt : α → Nat) : List α → Int → List α
  | [], _ => []
  | x :: xs, k => mk x k :: mkL mk cnt xs (k + (cnt x : Nat))
variable {mk : α → Int → α} {cnt : α → Nat}
theorem cntL_nil : cntL cnt [] = 0 := rfl
theorem cntL_cons (x : α) (xs : List α) : cntL cnt (x :: xs) = cnt x + cntL cnt xs := by simp [cntL]
theorem cntL_snoc {xs : List α} {i : Nat} {x : α} (h : xs[i]? = some x) : cntL cnt (xs.take (i + 1)) = cntL cnt (xs.take i) + cnt x := by
  rw [take_snoc h]; simp [cntL]
theorem cntL_take_le (xs : List α) (i : Nat) : cntL cnt (xs.take i) ≤ cntL cnt xs := by
  induction xs generalizing i with
  | nil => simp [cntL]
  | cons x xs ih =>
    cases i with
    | zero => simp [cntL]
    | succ i => rw [List.take_succ_cons, cntL_cons, cntL_cons]; have := ih i; omega
theorem mkL_length (xs : List α) (k : Int) : (mkL mk cnt xs k).length = xs.length := by
  induction xs generalizing k with
  | nil => rfl
  | cons x xs ih => simp [mkL, ih]
theorem mkL_get {xs : List α} {i : Nat} {x : α} (h : xs[i]? = some x) (k : Int) : (mkL mk cnt xs k)[i]? = some (mk x (k + (cntL cnt (xs.take i) : Nat))) := by
  induction xs generalizing i k with
  | nil => simp at h
  | cons y ys ih =>
    cases i with
    | zero => simp at h; subst h; simp [mkL, cntL]
    | succ i =>
      rw [List.getElem?_cons_succ] at h
      simp only [mkL, List.getElem?_cons_succ, List.take_succ_cons, cntL_cons]
      rw [ih h]
      congr 2
      omega
/-- the first i are marked -/
def mkTo (mk : α → Int → α) (cnt : α → Nat) (xs : List α) (k : Int) (i : Nat) : List α := (mkL mk cnt xs k).take i ++ xs.drop i
theorem mkTo_zero (xs : List α) (k : Int) : mkTo mk cnt xs k 0 = xs := by simp [mkTo]
theorem mkTo_all (xs : List α) (k : Int) : mkTo mk cnt xs k xs.length = mkL mk cnt xs k := by
  unfold mkTo
  rw [List.take_of_length_le (by rw [mkL_length]; omega), List.drop_length, List.append_nil]
theorem mkTo_get {xs : List α} {i : Nat} {x : α} (h : xs[i]? = some x) (k : Int) : (mkTo mk cnt xs k i)[i]? = some x := by
  have hi := (List.getElem?_eq_some_iff.1 h).1
  unfold mkTo
  rw [List.getElem?_append_right (by rw [List.length_take, mkL_length]; omega), List.length_take, mkL_length, Nat.min_eq_left (by omega), Nat.sub_self, List.getElem?_drop, Nat.add_zero, h]
theorem mkTo_set {xs : List α} {i : Nat} {x : α} (h : xs[i]? = some x) (k : Int) : (mkTo mk cnt xs k i).set i (mk x (k + (cntL cnt (xs.take i) : Nat))) = mkTo mk cnt xs k (i + 1) := by
  have hi := (List.getElem?_eq_some_iff.1 h).1
  have hm := mkL_get (mk := mk) (cnt := cnt) h k
  unfold mkTo
  rw [take_snoc hm, List.set_append_right _ _ (by rw [List.length_take, mkL_length]; omega), List.length_take, mkL_length, Nat.min_eq_left (by omega), Nat.sub_self]
  have e : xs.drop i = x :: xs.drop (i + 1) := by
    rw [List.drop_eq_getElem_cons hi, (List.getElem?_eq_some_iff.1 h).2]
  rw [e, List.set_cons_zero, List.append_assoc]
  rfl
end
end Go.Proofs.Ytbhobjepjaeffaa
