/-
  VARINT, PART 2: DecodeVarint.
-/
import Derived.Test.YtbhobjepjaeffaaVarint
import Derived.Test.YtbhobjepjaeffaaStacks
set_option linter.unusedVariables false
set_option linter.unusedSimpArgs false
namespace Go.Proofs.Ytbhobjepjaeffaa
open Go.RowKit
def decGo (L : List UInt8) (a : Nat) : Nat → Nat → Nat → Nat × Nat × Bool
  | 0, _, _ => (0, 0, false)
  | f + 1, k, n => match L[a + k]? with
    | none => (0, 0, false)
    | some b => if b.toNat < 128 then (if (encV ((n + b.toNat % 128 * 128 ^ k : Nat) : Int)).data.toList = (L.drop a).take (k + 1) then (n + b.toNat % 128 * 128 ^ k, k + 1, true) else (0, 0, false)) else decGo L a f (k + 1) (n + b.toNat % 128 * 128 ^ k)
theorem decGo_some {L : List UInt8} {a f k n : Nat} {b : UInt8} (h : L[a + k]? = some b) : decGo L a (f + 1) k n = if b.toNat < 128 then (if (encV ((n + b.toNat % 128 * 128 ^ k : Nat) : Int)).data.toList = (L.drop a).take (k + 1) then (n + b.toNat % 128 * 128 ^ k, k + 1, true) else (0, 0, false)) else decGo L a f (k + 1) (n + b.toNat % 128 * 128 ^ k) := by
  rw [decGo, h]
theorem decGo_none {L : List UInt8} {a f k n : Nat} (h : L[a + k]? = none) : decGo L a (f + 1) k n = (0, 0, false) := by
  rw [decGo, h]
def decV (s : ByteArray) (a : Int) : Nat × Nat × Bool := if 0 ≤ a then decGo s.data.toList a.toNat 6 0 0 else (0, 0, false)
def RetDec (p : Nat × Nat × Bool) (w : World) (e : Ending) (w' : World) : Prop := e = .returned (.tuple #[.int .i64 p.1, .int .i64 p.2.1, .bool p.2.2]) ∧ Gro w w'
theorem ret_dec {p q : Nat × Nat × Bool} (h : p = q) {w w' : World} (hG : Gro w w') : RetDec p w (.returned (.tuple #[.int .i64 q.1, .int .i64 q.2.1, .bool q.2.2])) w' := by
  subst h
  exact ⟨rfl, hG⟩
theorem ext_list (s : ByteArray) (a b : Nat) : (s.extract a b).data.toList = (s.data.toList.drop a).take (b - a) := by
  rw [ByteArray.data_extract, Array.toList_extract]
theorem decV_out {s : ByteArray} {a : Int} (hb : btw a 0 ((s.size : Int) - 1) = false) : decV s a = (0, 0, false) := by
  unfold decV
  split
  · rename_i h0
    obtain ⟨n, rfl⟩ := Int.eq_ofNat_of_zero_le h0
    have hn : s.data.toList[(n : Int).toNat + 0]? = none := by
      rw [List.getElem?_eq_none_iff]
      have h1 : s.data.toList.length = s.size := by rw [Array.length_toList]; rfl
      have : ¬ (n : Int) ≤ s.size - 1 := fun h => by rw [btw_mk (by omega) h] at hb; cases hb
      rw [h1, Int.toNat_natCast]
      omega
    exact decGo_none hn
  · rfl
theorem pow128 (j : Nat) : (2 : Int) ^ (7 * j) = ((128 ^ j : Nat) : Int) := by
  rw [Int.pow_mul]
  norm_cast
theorem u8_and127 (b : UInt8) : bits .and .u8 (b.toNat : Int) 127 = (b.toNat : Int) % 128 := bits_mask .u8 8 (by decide) wraps_u8 7 (by decide) _ (by omega) (by have := b.toNat_lt; omega)
theorem or_step {m j : Nat} (b : UInt8) (hj : j < 6) (hm : m < 128 ^ j) : bits .or .i64 (m : Int) (wrap64 ((b.toNat : Int) % 128 * 2 ^ (7 * j))) = ((m + b.toNat % 128 * 128 ^ j : Nat) : Int) ∧ m + b.toNat % 128 * 128 ^ j < 128 ^ (j + 1) ∧ m + b.toNat % 128 * 128 ^ j < 4398046511104 := by
  have hp : 128 ^ (j + 1) ≤ 4398046511104 := by
    have h := Nat.pow_le_pow_right (show 0 < 128 by omega) (show j + 1 ≤ 6 by omega)
    exact h
  have hb : b.toNat % 128 ≤ 127 := by omega
  have hmul : b.toNat % 128 * 128 ^ j ≤ 127 * 128 ^ j := Nat.mul_le_mul_right _ hb
  have hs : (128 : Nat) ^ (j + 1) = 128 * 128 ^ j := by rw [Nat.pow_succ, Nat.mul_comm]
  have e1 : ((b.toNat : Int) % 128 * 2 ^ (7 * j)) = ((b.toNat % 128 * 128 ^ j : Nat) : Int) := by
    rw [pow128]; push_cast; rfl
  have e2 : wrap64 ((b.toNat % 128 * 128 ^ j : Nat) : Int) = ((b.toNat % 128 * 128 ^ j : Nat) : Int) := wrap64_small (by omega) (by omega)
  refine ⟨?_, by omega, by omega⟩
  rw [e1, e2, bits_or_comm, bits_join .i64 62 (by decide) wraps_i64 (7 * j) _ _ (by omega) (by rw [pow128]; norm_cast; exact Nat.mul_mod_left _ _) (by norm_cast; omega) (by omega) (by rw [pow128]; exact_mod_cast hm) (by norm_cast; omega)]
  push_cast
  omega
end Go.Proofs.Ytbhobjepjaeffaa
