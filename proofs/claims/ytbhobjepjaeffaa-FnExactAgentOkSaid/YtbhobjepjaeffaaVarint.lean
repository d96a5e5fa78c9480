/-
  VARINT: EncodeVarint, DecodeVarint, PackInts, UnpackInts, PackText, UnpackText of the program and of the reference.
-/
import Derived.Test.YtbhobjepjaeffaaBytes
import Derived.Test.YtbhobjepjaeffaaLists
import Derived.Deep.RegionHeld3
import Derived.Deep.DeepMust
import Derived.Laws.Bits128
set_option linter.unusedVariables false
set_option linter.unusedSimpArgs false
namespace Go.Proofs.Ytbhobjepjaeffaa
open Go.RowKit
def varN (n : Nat) : List UInt8 := if n < 128 then [UInt8.ofNat n] else UInt8.ofNat (n % 128 + 128) :: varN (n / 128)
termination_by n
decreasing_by omega
theorem varN_lo {n : Nat} (h : n < 128) : varN n = [UInt8.ofNat n] := by rw [varN, if_pos h]
theorem varN_hi {n : Nat} (h : 128 ≤ n) : varN n = UInt8.ofNat (n % 128 + 128) :: varN (n / 128) := by rw [varN, if_neg (by omega)]
theorem varN_len (n : Nat) : (varN n).length ≤ n + 1 := by
  induction n using Nat.strongRecOn with
  | ind n ih =>
    by_cases h : n < 128
    · rw [varN_lo h]; simp
    · rw [varN_hi (by omega), List.length_cons]
      have := ih (n / 128) (by omega)
      omega
def encV (n : Int) : ByteArray := if btw n 0 1099511627775 then ⟨(varN n.toNat).toArray⟩ else ⟨#[]⟩
theorem bits_or_comm (k : IntKind) (x y : Int) : bits .or k x y = bits .or k y x := by simp only [bits, BitVec.or_comm]
theorem wraps_i64 (n : Int) (h0 : 0 ≤ n) (h1 : n < 2 ^ 62) : IntKind.i64.wrap n = n := IntWalk.i64_in n ⟨by omega, by omega⟩
theorem or_high (m : Nat) : bits .or .i64 ((m : Int) % 128) 128 = (m : Int) % 128 + 128 := by
  rw [bits_or_comm, bits_join .i64 62 (by decide) wraps_i64 7 128 _ (by decide) (by decide) (by decide) (by omega) (by omega) (by omega)]
  omega
theorem byte_mkN {w : World} {B : Nat} (n : Nat) (h : n < 256) : byteT.R w B [.int .u8 (n : Int)] (UInt8.ofNat n) := byte_mkR (x := (n : Int)) (by omega) (by omega)
theorem byte_hi {w : World} {B : Nat} (m : Nat) : byteT.R w B [.int .u8 ((m : Int) % 128 + 128)] (UInt8.ofNat (m % 128 + 128)) := byte_mkN (m % 128 + 128) (by omega)
end Go.Proofs.Ytbhobjepjaeffaa
