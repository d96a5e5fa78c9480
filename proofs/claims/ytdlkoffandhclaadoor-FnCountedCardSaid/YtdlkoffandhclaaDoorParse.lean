/-
  PARSE: the reference's cutting at a byte, ParseUint of the program and of the reference.
-/
import Derived.Test.YtdlkoffandhclaaDoorParseLaw
set_option linter.unusedVariables false
set_option linter.unusedSimpArgs false
namespace Go.Proofs.YtdlkoffandhclaaDoor
open Go.RowKit
theorem val_int {a b : Int} (h : a = b) : Value.int .i64 a = .int .i64 b := by rw [h]
theorem isDig_lo {b : UInt8} (h : (b.toNat : Int) < 48) : isDig b = false := by simp [isDig]; omega
theorem isDig_hi {b : UInt8} (h : 57 < (b.toNat : Int)) : isDig b = false := by simp [isDig]; omega
theorem isDig_yes {b : UInt8} (h1 : ¬ (b.toNat : Int) < 48) (h2 : ¬ 57 < (b.toNat : Int)) : isDig b = true := by simp [isDig]; omega
def parseUo (s : ByteArray) : Nat × Bool := match parseU s.data.toList with
  | some n => (n, true)
  | none => (0, false)
theorem parseUo_none {s : ByteArray} (h : parseU s.data.toList = none) : parseUo s = (0, false) := by unfold parseUo; rw [h]
theorem parseUo_some {s : ByteArray} {n : Nat} (h : parseU s.data.toList = some n) : parseUo s = (n, true) := by unfold parseUo; rw [h]
theorem head_get {s : ByteArray} (h : 0 < s.size) : s.data.toList.head? = some s[0] := by
  rw [List.head?_eq_getElem?, bytes_get s 0 h]
theorem cut_next {l : List UInt8} {st k : Nat} {b c : UInt8} (h : l[k]? = some b) (hst : st ≤ k) : cutA c ((l.drop st).take (k - st)) (l.drop k) = if b = c then (l.drop st).take (k - st) :: cutA c ((l.drop (k + 1)).take (k + 1 - (k + 1))) (l.drop (k + 1)) else cutA c ((l.drop st).take (k + 1 - st)) (l.drop (k + 1)) := by
  obtain ⟨hl, rfl⟩ := List.getElem?_eq_some_iff.1 h
  rw [List.drop_eq_getElem_cons hl, cutA]
  congr 1
  · simp
  · congr 1
    rw [show k + 1 - st = (k - st) + 1 by omega, List.take_succ_eq_append_getElem (by simp; omega)]
    congr 2
    rw [List.getElem_drop]
    congr 1
    omega
theorem ext_str (s : ByteArray) (a b : Nat) : s.extract a b = ⟨((s.data.toList.drop a).take (b - a)).toArray⟩ := by
  have := Lib.extract_data s a b
  rw [← this]
end Go.Proofs.YtdlkoffandhclaaDoor
