/-
  FMTINT: FormatInt of the reference.
-/
import Derived.Test.YtcomafmiclkmhaaGreatDoorStacks
import Derived.Test.YtcomafmiclkmhaaGreatDoorBytes
import Derived.Deep.DeepMust
import Derived.Lib.ItoaNum
set_option linter.unusedVariables false
set_option linter.unusedSimpArgs false
namespace Go.Proofs.YtcomafmiclkmhaaGreatDoor
open Go.RowKit
theorem dec_lo {n : Nat} (h : n < 10) : Lib.decDigits n = [UInt8.ofNat (48 + n)] := by rw [Lib.decDigits, dif_pos h]
theorem dec_hi {n : Nat} (h : 10 ≤ n) : Lib.decDigits n = Lib.decDigits (n / 10) ++ [UInt8.ofNat (48 + n % 10)] := by rw [Lib.decDigits, dif_neg (by omega)]
def digs (n : Nat) : List UInt8 := if n = 0 then [] else Lib.decDigits n
theorem digs_pos {n : Nat} (h : 0 < n) : digs n = digs (n / 10) ++ [UInt8.ofNat (48 + n % 10)] := by
  unfold digs
  rw [if_neg (by omega)]
  by_cases h10 : n < 10
  · rw [dec_lo h10, if_pos (by omega), Nat.mod_eq_of_lt h10]; rfl
  · rw [dec_hi (by omega), if_neg (by omega)]
theorem str_app (a b : List UInt8) : (⟨a.toArray⟩ : ByteArray) ++ ⟨b.toArray⟩ = ⟨(a ++ b).toArray⟩ := bytes_app a b
theorem figure_s (d : Int) (h0 : 0 ≤ d) (h1 : d < 10) (w : World) : Calls Tryz.prog 103 #[.int .i64 d] w fun e w' => e = .returned (.int .u8 (48 + d)) ∧ w = w' := by
  go_enter Tryz.func103, Tryz.ntmps103
  go_wp2
  go_ret
  exact ⟨rfl, rfl⟩
set_option maxRecDepth 100000 in
theorem fmtInt_s (x : Int) (h0 : 0 ≤ x) (h1 : x ≤ 1099511627776) (w : World) : Calls Tryz.prog 76 #[.int .i64 x] w fun e w' => e = .returned (.string ⟨(Lib.decDigits x.toNat).toArray⟩) ∧ Gro w w' := by
  obtain ⟨n, rfl⟩ := Int.eq_ofNat_of_zero_le h0
  rw [Int.toNat_natCast]
  have kc := run_byte_str
  by_cases hn : n = 0
  · subst hn
    have HD := Lib.hid (show (⟨#[48]⟩ : ByteArray) = ⟨(Lib.decDigits 0).toArray⟩ from by rw [dec_lo (by omega)]; rfl)
    go_enter Tryz.func76, Tryz.ntmps76
    go_wp2
    go_ret
    exact ⟨ret_str HD.out, Gro.refl _⟩
  · have HD := Lib.hid (show Lib.decDigits n = digs n from by unfold digs; rw [if_neg hn])
    have hn1 : 0 < n := by omega
    have hb1 : ((n : Int) == 0) = false := by simp; omega
    go_enter Tryz.func76, Tryz.ntmps76
    go_wp2_with (fail)
    go_loopw [0, 4] (fun a b wr => ∃ (m : Nat) (acc : List UInt8), m + acc.length ≤ n ∧ a = .int .i64 m ∧ b = .string ⟨acc.toArray⟩ ∧ Hid (digs m ++ acc = digs n) ∧ Hid (Gro w wr)) (fun a _ _ => (intOf a).toNat)
    case atStart => exact ⟨n, [], by simp, rfl, rfl, Lib.hid (by simp), Lib.hid (by repeat (first | with_reducible exact Gro.refl _ | with_reducible exact Gro.refl_drew _ _ _ | with_reducible exact Gro.refl_drewN _ _ _ _ | assumption | with_reducible apply Gro.more | with_reducible apply Gro.alloc | with_reducible apply Gro.drew | with_reducible apply Gro.drewN))⟩
    case round =>
      obtain ⟨m, acc, hm, rfl, rfl, HT, hg⟩ := hrel
      by_cases h : 0 < m
      · have HP := Lib.hid (digs_pos h)
        have hm1 : ((m : Int) == 0) = false := by simp; omega
        have hm2 : ((m : Int) != 0) = true := by simp; omega
        have hz : (⟨#[UInt8.ofNat (48 + (m : Int) % 10).toNat]⟩ : ByteArray).size + (⟨acc.toArray⟩ : ByteArray).size ≤ 9223372036854775807 := by
          have e1 : (⟨#[UInt8.ofNat (48 + (m : Int) % 10).toNat]⟩ : ByteArray).size = 1 := rfl
          have e2 : (⟨acc.toArray⟩ : ByteArray).size = acc.length := by show acc.toArray.size = _; simp
          omega
        go_wp2_with (go_at_call 103; go_must ((with_reducible refine (figure_s ((m : Int) % 10) (by omega) (by omega) _).mono ?_)); rintro e w1 ⟨rfl, rfl⟩)
        go_roundw
        case rel => exact ⟨m / 10, UInt8.ofNat (48 + m % 10) :: acc, by simp; omega, by go_num, val_str (by rw [UInt8.ofNat_add]; exact str_app [_] acc), Lib.hid (by rw [← HT.out, HP.out]; simp), Lib.hid (hg.out.alloc _)⟩
        case measure => simp [intOf]; omega
      · have hm0 : m = 0 := by omega
        subst hm0
        have HQ := Lib.hid (show (⟨acc.toArray⟩ : ByteArray) = ⟨(Lib.decDigits n).toArray⟩ from by rw [HD.out, ← HT.out]; rfl)
        go_wp2
        go_ret
        exact ⟨ret_str HQ.out, hg.out⟩
end Go.Proofs.YtcomafmiclkmhaaGreatDoor
