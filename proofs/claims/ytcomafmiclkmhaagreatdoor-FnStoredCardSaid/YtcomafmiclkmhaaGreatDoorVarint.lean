/-
  VARINT: EncodeVarint, DecodeVarint, PackInts, UnpackInts, PackText, UnpackText of the program and of the reference.
-/
import Derived.Test.YtcomafmiclkmhaaGreatDoorBytes
import Derived.Test.YtcomafmiclkmhaaGreatDoorLists
import Derived.Deep.RegionHeld3
import Derived.Deep.DeepMust
import Derived.Laws.Bits128
set_option linter.unusedVariables false
set_option linter.unusedSimpArgs false
namespace Go.Proofs.YtcomafmiclkmhaaGreatDoor
open Go.RowKit
def varN (n : Nat) : List UInt8 := if n < 128 then [UInt8.ofNat n] else UInt8.ofNat (n % 128 + 128) :: varN (n / 128)
termination_by n
decreasing_by omega
theorem varN_lo {n : Nat} (h : n < 128) : varN n = [UInt8.ofNat n] := by rw [varN, if_pos h]
theorem varN_hi {n : Nat} (h : 128 ≤ n) : varN n = UInt8.ofNat (n % 128 + 128) :: varN (n / 128) := by rw [varN, if_neg (by omega)]
theorem varN_len (n : Nat) : (varN n).length ≤ n + 1 := by
  induction n using Nat.strongRecOn with
  | ind n ih =>
    by_cases h : n < 128
    · rw [varN_lo h]; simp
    · rw [varN_hi (by omega), List.length_cons]
      have := ih (n / 128) (by omega)
      omega
def encV (n : Int) : ByteArray := if btw n 0 1099511627775 then ⟨(varN n.toNat).toArray⟩ else ⟨#[]⟩
theorem bits_or_comm (k : IntKind) (x y : Int) : bits .or k x y = bits .or k y x := by simp only [bits, BitVec.or_comm]
theorem wraps_i64 (n : Int) (h0 : 0 ≤ n) (h1 : n < 2 ^ 62) : IntKind.i64.wrap n = n := IntWalk.i64_in n ⟨by omega, by omega⟩
theorem or_high (m : Nat) : bits .or .i64 ((m : Int) % 128) 128 = (m : Int) % 128 + 128 := by
  rw [bits_or_comm, bits_join .i64 62 (by decide) wraps_i64 7 128 _ (by decide) (by decide) (by decide) (by omega) (by omega) (by omega)]
  omega
theorem byte_mkN {w : World} {B : Nat} (n : Nat) (h : n < 256) : byteT.R w B [.int .u8 (n : Int)] (UInt8.ofNat n) := byte_mkR (x := (n : Int)) (by omega) (by omega)
theorem byte_hi {w : World} {B : Nat} (m : Nat) : byteT.R w B [.int .u8 ((m : Int) % 128 + 128)] (UInt8.ofNat (m % 128 + 128)) := byte_mkN (m % 128 + 128) (by omega)
set_option maxRecDepth 100000 in
theorem encV_i (n : Int) (w : World) : Calls Tryz.prog 15 #[.int .i64 n] w fun e w' => e = .returned (.string (encV n)) ∧ Gro w w' := by
  cases hb : btw n 0 1099511627775
  · have HS := Lib.hid (show encV n = ⟨#[]⟩ from by simp [encV, hb])
    have HB := Lib.hid hb
    clear hb
    go_enter Tryz.func15, Tryz.ntmps15
    go_wp2_with (go_at_call 33; (with_reducible refine (in_i _ _ _ _).mono ?_); rw [HB.out]; rintro e w1 ⟨rfl, rfl⟩)
    go_ret
    exact ⟨ret_str HS.out.symm, (by repeat (first | with_reducible exact Gro.refl _ | with_reducible exact Gro.refl_drew _ _ _ | with_reducible exact Gro.refl_drewN _ _ _ _ | assumption | with_reducible apply Gro.more | with_reducible apply Gro.alloc | with_reducible apply Gro.drew | with_reducible apply Gro.drewN))⟩
  · obtain ⟨hb1, hb2⟩ := btw_iff.1 hb
    obtain ⟨n, rfl⟩ := Int.eq_ofNat_of_zero_le hb1
    have HS := Lib.hid (show encV n = ⟨(varN n).toArray⟩ from by simp [encV, hb])
    have HB := Lib.hid hb
    clear hb
    go_enter Tryz.func15, Tryz.ntmps15
    go_wp2_with (go_at_call 33; (with_reducible refine (in_i _ _ _ _).mono ?_); rw [HB.out]; rintro e w1 ⟨rfl, rfl⟩)
    go_loopw [0, 3] (fun a b wr => ∃ (m : Nat) (acc : List UInt8) (A : Option Addr) (c : Nat), a = .int .i64 m ∧ b = .slice A acc.length c ∧ acc.length + m ≤ n ∧ Hid (acc ++ varN m = varN n) ∧ Hid (Gro w wr) ∧ Hid (Fresh (byteT.sl 5) w wr [.slice A acc.length c] acc)) (fun a _ _ => (intOf a).toNat)
    case atStart => exact ⟨n, [], _, 0, rfl, rfl, by simp, Lib.hid (by simp), Lib.hid (by repeat (first | with_reducible exact Gro.refl _ | with_reducible exact Gro.refl_drew _ _ _ | with_reducible exact Gro.refl_drewN _ _ _ _ | assumption | with_reducible apply Gro.more | with_reducible apply Gro.alloc | with_reducible apply Gro.drew | with_reducible apply Gro.drewN)), Lib.hid (fresh_empty (by repeat (first | with_reducible exact Gro.refl _ | with_reducible exact Gro.refl_drew _ _ _ | with_reducible exact Gro.refl_drewN _ _ _ _ | assumption | with_reducible apply Gro.more | with_reducible apply Gro.alloc | with_reducible apply Gro.drew | with_reducible apply Gro.drewN)) (by simp))⟩
    case round =>
      obtain ⟨m, acc, A, c, rfl, rfl, hm, HT, hG, hF⟩ := hrel
      obtain ⟨os, d, rfl⟩ := hG.out
      clear hG
      by_cases hlt : 127 < m
      · have e1 := i64_and127 m
        have e2 := or_high m
        have HN := Lib.hid (varN_hi (n := m) (by omega))
        go_wp2_with (at_builtin; go_must (refine wpList_append_fone (L := acc.length + 1) rfl (.tmp 10) (.tmp 15) elByte flat_byte (W0 := w) (hF.out.gro (by repeat (first | with_reducible exact Gro.refl _ | with_reducible exact Gro.refl_drew _ _ _ | with_reducible exact Gro.refl_drewN _ _ _ _ | assumption | with_reducible apply Gro.more | with_reducible apply Gro.alloc | with_reducible apply Gro.drew | with_reducible apply Gro.drewN))).fre (by repeat (first | with_reducible exact Gro.refl _ | with_reducible exact Gro.refl_drew _ _ _ | with_reducible exact Gro.refl_drewN _ _ _ _ | assumption | with_reducible apply Gro.more | with_reducible apply Gro.alloc | with_reducible apply Gro.drew | with_reducible apply Gro.drewN)) (W1 := w) (B := 0) (ec := [.int .u8 ((m : Int) % 128 + 128)]) (y := UInt8.ofNat (m % 128 + 128)) (byte_hi m) rfl rfl rfl (by intro j u hu; simpa [go_sem] using hu) rfl (by omega) (by omega) ?_); intro A2 c2 os2 d2 hF2)
        go_roundw
        case rel => exact ⟨m / 128, acc ++ [UInt8.ofNat (m % 128 + 128)], A2, c2, by go_num, by simp, by simp; omega, Lib.hid (by rw [← HT.out, HN.out]; simp), Lib.hid (by repeat (first | with_reducible exact Gro.refl _ | with_reducible exact Gro.refl_drew _ _ _ | with_reducible exact Gro.refl_drewN _ _ _ _ | assumption | with_reducible apply Gro.more | with_reducible apply Gro.alloc | with_reducible apply Gro.drew | with_reducible apply Gro.drewN)), Lib.hid (by simpa using hF2)⟩
        case measure => simp [intOf]; omega
      · have HN := Lib.hid (varN_lo (n := m) (by omega))
        go_wp2_with (at_builtin; go_must (refine wpList_append_fone (L := acc.length + 1) rfl (.tmp 19) (.tmp 22) elByte flat_byte (W0 := w) (hF.out.gro (by repeat (first | with_reducible exact Gro.refl _ | with_reducible exact Gro.refl_drew _ _ _ | with_reducible exact Gro.refl_drewN _ _ _ _ | assumption | with_reducible apply Gro.more | with_reducible apply Gro.alloc | with_reducible apply Gro.drew | with_reducible apply Gro.drewN))).fre (by repeat (first | with_reducible exact Gro.refl _ | with_reducible exact Gro.refl_drew _ _ _ | with_reducible exact Gro.refl_drewN _ _ _ _ | assumption | with_reducible apply Gro.more | with_reducible apply Gro.alloc | with_reducible apply Gro.drew | with_reducible apply Gro.drewN)) (W1 := w) (B := 0) (ec := [.int .u8 (m : Int)]) (y := UInt8.ofNat m) (byte_mkN m (by omega)) rfl rfl rfl (by intro j u hu; simpa [go_sem] using hu) rfl (by omega) (by omega) ?_); intro A2 c2 os2 d2 hF2; have kc := conv_bytes hF2.read)
        go_ret
        exact ⟨ret_str (by rw [HS.out, ← HT.out, HN.out]), (by repeat (first | with_reducible exact Gro.refl _ | with_reducible exact Gro.refl_drew _ _ _ | with_reducible exact Gro.refl_drewN _ _ _ _ | assumption | with_reducible apply Gro.more | with_reducible apply Gro.alloc | with_reducible apply Gro.drew | with_reducible apply Gro.drewN))⟩
end Go.Proofs.YtcomafmiclkmhaaGreatDoor
