/-
  FMTINT: FormatInt of the reference.
-/
import Derived.Test.YtdlkoffandhclaaDoorStacks
import Derived.Test.YtdlkoffandhclaaDoorBytes
import Derived.Deep.DeepMust
import Derived.Lib.ItoaNum
set_option linter.unusedVariables false
set_option linter.unusedSimpArgs false
namespace Go.Proofs.YtdlkoffandhclaaDoor
open Go.RowKit
theorem dec_lo {n : Nat} (h : n < 10) : Lib.decDigits n = [UInt8.ofNat (48 + n)] := by rw [Lib.decDigits, dif_pos h]
theorem dec_hi {n : Nat} (h : 10 ≤ n) : Lib.decDigits n = Lib.decDigits (n / 10) ++ [UInt8.ofNat (48 + n % 10)] := by rw [Lib.decDigits, dif_neg (by omega)]
def digs (n : Nat) : List UInt8 := if n = 0 then [] else Lib.decDigits n
theorem digs_pos {n : Nat} (h : 0 < n) : digs n = digs (n / 10) ++ [UInt8.ofNat (48 + n % 10)] := by
  unfold digs
  rw [if_neg (by omega)]
  by_cases h10 : n < 10
  · rw [dec_lo h10, if_pos (by omega), Nat.mod_eq_of_lt h10]; rfl
  · rw [dec_hi (by omega), if_neg (by omega)]
theorem str_app (a b : List UInt8) : (⟨a.toArray⟩ : ByteArray) ++ ⟨b.toArray⟩ = ⟨(a ++ b).toArray⟩ := bytes_app a b
end Go.Proofs.YtdlkoffandhclaaDoor
