/-
  OP: the contracts of the size of an instruction, of its decoding and of its disassembly.
-/
import Derived.Test.YtbhobjepjaeffaaOpLaw
set_option linter.unusedVariables false
set_option linter.unusedSimpArgs false
namespace Go.Proofs.Ytbhobjepjaeffaa
open Go.RowKit
set_option maxRecDepth 100000 in
theorem argument_i (c : Int) (w : World) : Calls Try.prog 153 #[.int .i64 c] w fun e w' => e = .returned (.tuple #[.int .i64 ((opW c).1 : Int), .bool (opW c).2]) ∧ w = w' := by
  go_enter Try.func153, Try.ntmps153
  go_wp2
  all_goals
    go_ret2
    refine ⟨?_, rfl⟩
    simp_all [opW]
set_option maxRecDepth 100000 in
theorem width_s (c : Int) (w : World) : Calls Try.prog 161 #[.int .i64 c] w fun e w' => e = .returned (.tuple #[.int .i64 ((opW c).1 : Int), .bool (opW c).2]) ∧ w = w' := by
  go_enter Try.func161, Try.ntmps161
  go_wp2
  all_goals
    go_ret2
    refine ⟨?_, rfl⟩
    simp_all [opW]
theorem opSize_def (c : Int) : opSize c = if btw c 0 17 = true then ((opW c).1 : Int) + 1 else 0 := rfl
set_option maxRecDepth 100000 in
theorem opSize_i (c : Int) (w : World) : Calls Try.prog 152 #[.int .i64 c] w fun e w' => e = .returned (.int .i64 (opSize c)) ∧ w = w' := by
  have hle := opW_le c
  obtain ⟨n, sg, hw⟩ : ∃ n sg, opW c = (n, sg) := ⟨_, _, rfl⟩
  rw [hw] at hle
  have HW := Lib.hid hw
  cases hb : btw c 0 17
  · have HS := Lib.hid (show opSize c = 0 from by simp [opSize, hb])
    have HB := Lib.hid hb
    clear hb hw
    go_enter Try.func152, Try.ntmps152
    go_wp2_with (go_at_call 48; (with_reducible refine (in_i _ _ _ _).mono ?_); rw [HB.out]; rintro e w1 ⟨rfl, rfl⟩)
    go_ret
    exact ⟨ret_int HS.out.symm, rfl⟩
  · have HS := Lib.hid (show opSize c = (n : Int) + 1 from by simp [opSize, hb, hw])
    have HB := Lib.hid hb
    clear hb hw
    go_enter Try.func152, Try.ntmps152
    go_wp2_with (first
      | (go_at_call 48; (with_reducible refine (in_i _ _ _ _).mono ?_); rw [HB.out]; rintro e w1 ⟨rfl, rfl⟩)
      | (go_at_call 153; (with_reducible refine (argument_i _ _).mono ?_); rw [HW.out]; rintro e w1 ⟨rfl, rfl⟩))
    go_ret
    exact ⟨ret_int HS.out.symm, rfl⟩
set_option maxRecDepth 100000 in
theorem opSize_s (c : Int) (w : World) : Calls Try.prog 162 #[.int .i64 c] w fun e w' => e = .returned (.int .i64 (opSize c)) ∧ w = w' := by
  have hle := opW_le c
  obtain ⟨n, sg, hw⟩ : ∃ n sg, opW c = (n, sg) := ⟨_, _, rfl⟩
  rw [hw] at hle
  have HW := Lib.hid hw
  cases hb : btw c 0 17
  · have HS := Lib.hid (show opSize c = 0 from by simp [opSize, hb])
    have HB := Lib.hid hb
    clear hb hw
    go_enter Try.func162, Try.ntmps162
    go_wp2_with (go_at_call 44; (with_reducible refine (in_s _ _ _ _).mono ?_); rw [HB.out]; rintro e w1 ⟨rfl, rfl⟩)
    go_ret
    exact ⟨ret_int HS.out.symm, rfl⟩
  · have HS := Lib.hid (show opSize c = 1 + (n : Int) from by simp [opSize, hb, hw, Int.add_comm])
    have HB := Lib.hid hb
    clear hb hw
    go_enter Try.func162, Try.ntmps162
    go_wp2_with (first
      | (go_at_call 44; (with_reducible refine (in_s _ _ _ _).mono ?_); rw [HB.out]; rintro e w1 ⟨rfl, rfl⟩)
      | (go_at_call 161; (with_reducible refine (width_s _ _).mono ?_); rw [HW.out]; rintro e w1 ⟨rfl, rfl⟩))
    go_ret
    exact ⟨ret_int HS.out.symm, rfl⟩
end Go.Proofs.Ytbhobjepjaeffaa
