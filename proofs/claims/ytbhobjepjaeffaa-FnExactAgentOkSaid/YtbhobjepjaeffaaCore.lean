/-
  CORE: small words, and the contracts of between and l01In.
-/
import Derived.Test.YtbhobjepjaeffaaProg
import Derived.Test.YtbhobjepjaeffaaBase
import Derived.BigQuiet
import Derived.BigRegion
import Derived.Deep.QuietTactic
set_option linter.unusedVariables false
set_option linter.unusedSimpArgs false
namespace Go.Proofs.Ytbhobjepjaeffaa
open Go.RowKit
def btw (x a b : Int) : Bool := decide (a ≤ x) && decide (x ≤ b)
theorem btw_iff {x a b : Int} : btw x a b = true ↔ a ≤ x ∧ x ≤ b := by simp [btw]
theorem btw_mk {x a b : Int} (h1 : a ≤ x) (h2 : x ≤ b) : btw x a b = true := btw_iff.2 ⟨h1, h2⟩
theorem wrap64_small {n : Int} (h1 : -9223372036854775808 ≤ n) (h2 : n ≤ 9223372036854775807) : wrap64 n = n := IntWalk.wrap64_in n ⟨h1, h2⟩
theorem ret_bool {a b : Bool} (h : a = b) : Ending.returned (.bool a) = .returned (.bool b) := by rw [h]
theorem ret_int {a b : Int} (h : a = b) : Ending.returned (.int .i64 a) = .returned (.int .i64 b) := by rw [h]
theorem btw_dec (x a b : Int) (h : a ≤ x) : decide (x ≤ b) = btw x a b := by simp [btw, h]
theorem btw_not (x a b : Int) (h : x < a) : false = btw x a b := by simp [btw]; omega
theorem in_i (x a b : Int) (w : World) : Calls Try.prog 48 #[.int .i64 x, .int .i64 a, .int .i64 b] w fun e w' => e = .returned (.bool (btw x a b)) ∧ w = w' := by
  go_enter Try.func48, Try.ntmps48
  go_wp2
  · go_ret
    exact ⟨ret_bool (btw_dec x a b ‹_›), rfl⟩
  · go_ret
    exact ⟨ret_bool (btw_not x a b ‹_›), rfl⟩
theorem in_s (x a b : Int) (w : World) : Calls Try.prog 44 #[.int .i64 x, .int .i64 a, .int .i64 b] w fun e w' => e = .returned (.bool (btw x a b)) ∧ w = w' := by
  go_enter Try.func44, Try.ntmps44
  go_wp2
  · go_ret
    exact ⟨ret_bool (btw_dec x a b ‹_›), rfl⟩
  · go_ret
    exact ⟨ret_bool (btw_not x a b ‹_›), rfl⟩
theorem quiet_left {P : Program} {f : FuncId} {args : Array Value} {w : World} {n : Nat} {v : Value}
    (h : Calls P f args (w.drewN n) fun e w' => e = .returned v ∧ w.drewN n = w') : Calls P f args (w.drewN n) fun e w'' => e = .returned v ∧ ∃ m, w'' = w.drewN m :=
  h.mono fun _ _ ⟨he, hm⟩ => ⟨he, n, hm.symm⟩
theorem in_iv {x a b : Int} {v : Bool} (h : btw x a b = v) (w : World) (n : Nat) : Calls Try.prog 48 #[.int .i64 x, .int .i64 a, .int .i64 b] (w.drewN n) fun e w'' => e = .returned (.bool v) ∧ ∃ m, w'' = w.drewN m := by
  subst h
  exact quiet_left (in_i _ _ _ _)
theorem in_sv {x a b : Int} {v : Bool} (h : btw x a b = v) (w : World) (n : Nat) : Calls Try.prog 44 #[.int .i64 x, .int .i64 a, .int .i64 b] (w.drewN n) fun e w'' => e = .returned (.bool v) ∧ ∃ m, w'' = w.drewN m := by
  subst h
  exact quiet_left (in_s _ _ _ _)
end Go.Proofs.Ytbhobjepjaeffaa
