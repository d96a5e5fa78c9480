/-
  TIMERS: the contracts of NextState, TimerOk, NewTimer, TickTimer (program and reference), toTimer, eqTimer: each returns what the plain functions nextSt, timerOk, newTimer, tick compute.
-/
import Derived.Test.YtnapkbdnpjgnmaaCore
import Derived.Test.YtnapkbdnpjgnmaaTyTimer
import Derived.Laws.BitsAllLaws
import Derived.Laws.BitsLemmas
set_option linter.unusedVariables false
set_option linter.unusedSimpArgs false
namespace Go.Proofs.Ytnapkbdnpjgnmaa
open Go.RowKit
/-! ### plain -/
def nextSt (s : Int) : Int := if btw s 0 65535 then (s * 25173 + 13849) % 65536 else 0
theorem nextSt_bd (s : Int) : 0 ≤ nextSt s ∧ nextSt s ≤ 65535 := by
  unfold nextSt
  split <;> omega
def timerOk (t : DTimer) : Bool := btw t.Period 1 10000 && btw t.Spread 0 100 && btw t.Left 1 (wrap64 (t.Period + t.Spread)) && btw t.State 0 65535
structure TimerFit (t : DTimer) : Prop where
  p1 : 1 ≤ t.Period
  p2 : t.Period ≤ 10000
  s1 : 0 ≤ t.Spread
  s2 : t.Spread ≤ 100
  l1 : 1 ≤ t.Left
  l2 : t.Left ≤ t.Period + t.Spread
  st1 : 0 ≤ t.State
  st2 : t.State ≤ 65535
theorem timerOk_fit {t : DTimer} (h : timerOk t = true) : TimerFit t := by
  simp only [timerOk, Bool.and_eq_true, btw_iff] at h
  obtain ⟨⟨⟨⟨h1, h2⟩, h3, h4⟩, h5, h6⟩, h7, h8⟩ := h
  rw [wrap64_small (by omega) (by omega)] at h6
  exact ⟨h1, h2, h3, h4, h5, h6, h7, h8⟩
theorem timerOk_mk {t : DTimer} (h : TimerFit t) : timerOk t = true := by
  simp only [timerOk, Bool.and_eq_true, btw_iff]
  obtain ⟨h1, h2, h3, h4, h5, h6, h7, h8⟩ := h
  rw [wrap64_small (by omega) (by omega)]
  exact ⟨⟨⟨⟨h1, h2⟩, h3, h4⟩, h5, h6⟩, h7, h8⟩
def newTimer (p s seed : Int) : DTimer × Bool := if timerOk ⟨p, s, p, seed⟩ then (⟨p, s, p, seed⟩, true) else (⟨0, 0, 0, 0⟩, false)
def tick (t : DTimer) : DTimer × Bool :=
  if timerOk t then
    if 1 < t.Left then (⟨t.Period, t.Spread, t.Left - 1, t.State⟩, false)
    else if 0 < t.Spread then (⟨t.Period, t.Spread, t.Period + nextSt t.State / 64 % t.Spread, nextSt t.State⟩, true)
    else (⟨t.Period, t.Spread, t.Period, t.State⟩, true)
  else (t, false)
abbrev tmV (t : DTimer) : Value := .agg #[.int .i64 t.Period, .int .i64 t.Spread, .int .i64 t.Left, .int .i64 t.State]
theorem and_65535 (a : Int) (h0 : 0 ≤ a) (h1 : a ≤ 9223372036854775807) : bits .and .i64 a 65535 = a % 65536 := by
  obtain ⟨n, rfl⟩ := Int.eq_ofNat_of_zero_le h0
  show IntKind.i64.wrap ((BitVec.ofInt 64 (n : Int) &&& BitVec.ofInt 64 65535).toNat : Int) = _
  have e1 : (BitVec.ofInt 64 (n : Int)).toNat = n := by
    rw [BitVec.ofInt_natCast, BitVec.toNat_ofNat]; exact Nat.mod_eq_of_lt (by omega)
  rw [BitVec.toNat_and, e1, show (BitVec.ofInt 64 65535).toNat = 65535 from rfl, show (65535 : Nat) = 2 ^ 16 - 1 from rfl, Nat.and_two_pow_sub_one_eq_mod, IntKind.wrap_i64]
  omega
/-! ### the walks -/
theorem next_i (s : Int) (w : World) : Calls Try.prog 20 #[.int .i64 s] w fun e w' => e = .returned (.int .i64 (nextSt s)) ∧ w = w' := by
  cases h : btw s 0 65535
  · go_enter Try.func20, Try.ntmps20
    go_wp2_with (go_at_call 34; refine (in_i _ _ _ _).mono ?_; rintro e w' ⟨rfl, rfl⟩)
    go_ret
    exact ⟨ret_int (by simp [nextSt, h]), rfl⟩
  · obtain ⟨h0, h1⟩ := btw_iff.1 h
    go_enter Try.func20, Try.ntmps20
    go_wp2_with (go_at_call 34; refine (in_i _ _ _ _).mono ?_; rintro e w' ⟨rfl, rfl⟩)
    go_ret
    exact ⟨ret_int (by simp [nextSt, h]), rfl⟩
theorem next_s (s : Int) (w : World) : Calls Try.prog 49 #[.int .i64 s] w fun e w' => e = .returned (.int .i64 (nextSt s)) ∧ w = w' := by
  cases h : btw s 0 65535
  · go_enter Try.func49, Try.ntmps49
    go_wp2_with (go_at_call 42; refine (in_s _ _ _ _).mono ?_; rintro e w' ⟨rfl, rfl⟩)
    go_ret
    exact ⟨ret_int (by simp [nextSt, h]), rfl⟩
  · obtain ⟨h0, h1⟩ := btw_iff.1 h
    go_enter Try.func49, Try.ntmps49
    go_wp2_with (go_at_call 42; refine (in_s _ _ _ _).mono ?_; rintro e w' ⟨rfl, rfl⟩)
    go_ret
    exact ⟨ret_int (by rw [and_65535 _ (by omega) (by omega)]; simp [nextSt, h]), rfl⟩
theorem timerOk_4 (p s l st : Int) : (btw p 1 10000 && (btw s 0 100 && (btw l 1 (wrap64 (p + s)) && btw st 0 65535))) = timerOk ⟨p, s, l, st⟩ := by simp [timerOk, Bool.and_assoc]
theorem timerOk_i (t : DTimer) (w : World) : Calls Try.prog 21 #[tmV t] w fun e w' => e = .returned (.bool (timerOk t)) ∧ Gro w w' := by
  obtain ⟨p, s, l, st⟩ := t
  go_enter Try.func21, Try.ntmps21
  go_wp2_with (go_at_call 34; refine (in_i _ _ _ _).mono ?_; rintro e w' ⟨rfl, rfl⟩)
  all_goals
    go_ret
    refine ⟨ret_bool ?_, (Gro.refl _).alloc _⟩
    simp_all [timerOk]
theorem timerOk_s (t : DTimer) (w : World) : Calls Try.prog 48 #[tmV t] w fun e w' => e = .returned (.bool (timerOk t)) ∧ Gro w w' := by
  obtain ⟨p, s, l, st⟩ := t
  go_enter Try.func48, Try.ntmps48
  go_wp2_with (go_at_call 42; refine (in_s _ _ _ _).mono ?_; rintro e w' ⟨rfl, rfl⟩)
  all_goals
    go_ret
    refine ⟨ret_bool ?_, (Gro.refl _).alloc _⟩
    simp_all [timerOk]

theorem newTimer_i (p s seed : Int) (w : World) : Calls Try.prog 19 #[.int .i64 p, .int .i64 s, .int .i64 seed] w fun e w' => e = .returned (.tuple #[tmV (newTimer p s seed).1, .bool (newTimer p s seed).2]) ∧ Gro w w' := by
  cases h : timerOk ⟨p, s, p, seed⟩
  · go_enter Try.func19, Try.ntmps19
    go_wp2_with (go_at_call 21; refine (timerOk_i ⟨p, s, p, seed⟩ _).mono ?_; rintro e w1 ⟨rfl, os, d, rfl⟩)
    exact bodyPost_ret (v := .tuple #[.agg #[.int .i64 0, .int .i64 0, .int .i64 0, .int .i64 0], .bool false]) (by simp [results, Try.results19, go_sem]) rfl ⟨by simp [newTimer, h], (((Gro.refl _).alloc _).alloc _).more _ _⟩
  · go_enter Try.func19, Try.ntmps19
    go_wp2_with (go_at_call 21; refine (timerOk_i ⟨p, s, p, seed⟩ _).mono ?_; rintro e w1 ⟨rfl, os, d, rfl⟩)
    exact bodyPost_ret (v := .tuple #[.agg #[.int .i64 p, .int .i64 s, .int .i64 p, .int .i64 seed], .bool true]) (by simp [results, Try.results19, go_sem]) rfl ⟨by simp [newTimer, h], (((Gro.refl _).alloc _).alloc _).more _ _⟩
set_option maxHeartbeats 400000 in
theorem tick_i (t : DTimer) (w : World) : Calls Try.prog 18 #[tmV t] w fun e w' => e = .returned (.tuple #[tmV (tick t).1, .bool (tick t).2]) ∧ Gro w w' := by
  cases h : timerOk t
  · obtain ⟨p, s, l, st⟩ := t
    go_enter Try.func18, Try.ntmps18
    go_wp2_with (go_at_call 21; refine (timerOk_i ⟨p, s, l, st⟩ _).mono ?_; rintro e w1 ⟨rfl, os, d, rfl⟩)
    exact bodyPost_ret (v := .tuple #[.agg #[.int .i64 p, .int .i64 s, .int .i64 l, .int .i64 st], .bool false]) (by simp [results, Try.results18, go_sem]) rfl ⟨by simp [tick, h], (((Gro.refl _).alloc _).alloc _).more _ _⟩
  · obtain ⟨p, s, l, st⟩ := t
    obtain ⟨p1, p2, s1, s2, l1, l2, st1, st2⟩ := timerOk_fit h
    simp only at p1 p2 s1 s2 l1 l2 st1 st2
    by_cases hl : 1 < l
    · go_enter Try.func18, Try.ntmps18
      go_wp2_with (go_at_call 21; refine (timerOk_i ⟨p, s, l, st⟩ _).mono ?_; rintro e w1 ⟨rfl, os, d, rfl⟩)
      exact bodyPost_ret (v := .tuple #[.agg #[.int .i64 p, .int .i64 s, .int .i64 (l - 1), .int .i64 st], .bool false]) (by simp [results, Try.results18, go_sem]) rfl ⟨by simp [tick, h, hl], (((Gro.refl _).alloc _).alloc _).more _ _⟩
    · by_cases hs : 0 < s
      · obtain ⟨n1, n2⟩ := nextSt_bd st
        have k4 : (s == 0) = false := by simp; omega
        have q1 : 0 ≤ nextSt st / 64 % s := Int.emod_nonneg _ (by omega)
        have q2 : nextSt st / 64 % s < s := Int.emod_lt_of_pos _ hs
        have HT := Lib.hid (show tick ⟨p, s, l, st⟩ = (⟨p, s, p + nextSt st / 64 % s, nextSt st⟩, true) from by simp [tick, h, hl, hs])
        go_enter Try.func18, Try.ntmps18
        go_wp2_with (first | (go_at_call 21; refine (timerOk_i ⟨p, s, l, st⟩ _).mono ?_; rintro e w1 ⟨rfl, os, d, rfl⟩) | (go_at_call 20; refine (next_i _ _).mono ?_; rintro e w' ⟨rfl, rfl⟩))
        go_region
        go_wp2
        exact bodyPost_ret (v := .tuple #[.agg #[.int .i64 p, .int .i64 s, .int .i64 (p + nextSt st / 64 % s), .int .i64 (nextSt st)], .bool true]) (by simp [results, Try.results18, go_sem]) rfl ⟨by rw [HT.out], ((((Gro.refl _).alloc _).alloc _).more _ _).drew⟩
      · have HT := Lib.hid (show tick ⟨p, s, l, st⟩ = (⟨p, s, p, st⟩, true) from by simp [tick, h, hl, hs])
        go_enter Try.func18, Try.ntmps18
        go_wp2_with (go_at_call 21; refine (timerOk_i ⟨p, s, l, st⟩ _).mono ?_; rintro e w1 ⟨rfl, os, d, rfl⟩)
        exact bodyPost_ret (v := .tuple #[.agg #[.int .i64 p, .int .i64 s, .int .i64 p, .int .i64 st], .bool true]) (by simp [results, Try.results18, go_sem]) rfl ⟨by rw [HT.out], (((Gro.refl _).alloc _).alloc _).more _ _⟩

theorem newTimer_s (p s seed : Int) (w : World) : Calls Try.prog 43 #[.int .i64 p, .int .i64 s, .int .i64 seed] w fun e w' => e = .returned (.tuple #[tmV (newTimer p s seed).1, .bool (newTimer p s seed).2]) ∧ Gro w w' := by
  cases h : timerOk ⟨p, s, p, seed⟩
  · go_enter Try.func43, Try.ntmps43
    go_wp2_with (go_at_call 48; refine (timerOk_s ⟨p, s, p, seed⟩ _).mono ?_; rintro e w1 ⟨rfl, os, d, rfl⟩)
    exact bodyPost_ret (v := .tuple #[.agg #[.int .i64 0, .int .i64 0, .int .i64 0, .int .i64 0], .bool false]) (by simp [results, Try.results43, go_sem]) rfl ⟨by simp [newTimer, h], (((Gro.refl _).alloc _).alloc _).more _ _⟩
  · go_enter Try.func43, Try.ntmps43
    go_wp2_with (go_at_call 48; refine (timerOk_s ⟨p, s, p, seed⟩ _).mono ?_; rintro e w1 ⟨rfl, os, d, rfl⟩)
    exact bodyPost_ret (v := .tuple #[.agg #[.int .i64 p, .int .i64 s, .int .i64 p, .int .i64 seed], .bool true]) (by simp [results, Try.results43, go_sem]) rfl ⟨by simp [newTimer, h], (((Gro.refl _).alloc _).alloc _).more _ _⟩
set_option maxHeartbeats 400000 in
theorem tick_s (t : DTimer) (w : World) : Calls Try.prog 45 #[tmV t] w fun e w' => e = .returned (.tuple #[tmV (tick t).1, .bool (tick t).2]) ∧ Gro w w' := by
  cases h : timerOk t
  · obtain ⟨p, s, l, st⟩ := t
    go_enter Try.func45, Try.ntmps45
    go_wp2_with (go_at_call 48; refine (timerOk_s ⟨p, s, l, st⟩ _).mono ?_; rintro e w1 ⟨rfl, os, d, rfl⟩)
    exact bodyPost_ret (v := .tuple #[.agg #[.int .i64 p, .int .i64 s, .int .i64 l, .int .i64 st], .bool false]) (by simp [results, Try.results45, go_sem]) rfl ⟨by simp [tick, h], (((Gro.refl _).alloc _).alloc _).more _ _⟩
  · obtain ⟨p, s, l, st⟩ := t
    obtain ⟨p1, p2, s1, s2, l1, l2, st1, st2⟩ := timerOk_fit h
    simp only at p1 p2 s1 s2 l1 l2 st1 st2
    by_cases hl : 1 < l
    · go_enter Try.func45, Try.ntmps45
      go_wp2_with (go_at_call 48; refine (timerOk_s ⟨p, s, l, st⟩ _).mono ?_; rintro e w1 ⟨rfl, os, d, rfl⟩)
      exact bodyPost_ret (v := .tuple #[.agg #[.int .i64 p, .int .i64 s, .int .i64 (l - 1), .int .i64 st], .bool false]) (by simp [results, Try.results45, go_sem]) rfl ⟨by simp [tick, h, hl], (((Gro.refl _).alloc _).alloc _).more _ _⟩
    · by_cases hs : 0 < s
      · obtain ⟨n1, n2⟩ := nextSt_bd st
        have k4 : (s == 0) = false := by simp; omega
        have q1 : 0 ≤ nextSt st / 64 % s := Int.emod_nonneg _ (by omega)
        have q2 : nextSt st / 64 % s < s := Int.emod_lt_of_pos _ hs
        have HT := Lib.hid (show tick ⟨p, s, l, st⟩ = (⟨p, s, p + nextSt st / 64 % s, nextSt st⟩, true) from by simp [tick, h, hl, hs])
        go_enter Try.func45, Try.ntmps45
        go_wp2_with (first | (go_at_call 48; refine (timerOk_s ⟨p, s, l, st⟩ _).mono ?_; rintro e w1 ⟨rfl, os, d, rfl⟩) | (go_at_call 49; refine (next_s _ _).mono ?_; rintro e w' ⟨rfl, rfl⟩))
        go_region
        go_wp2
        exact bodyPost_ret (v := .tuple #[.agg #[.int .i64 p, .int .i64 s, .int .i64 (p + nextSt st / 64 % s), .int .i64 (nextSt st)], .bool true]) (by simp [results, Try.results45, go_sem]) rfl ⟨by rw [HT.out], ((((Gro.refl _).alloc _).alloc _).more _ _).drew⟩
      · have HT := Lib.hid (show tick ⟨p, s, l, st⟩ = (⟨p, s, p, st⟩, true) from by simp [tick, h, hl, hs])
        go_enter Try.func45, Try.ntmps45
        go_wp2_with (go_at_call 48; refine (timerOk_s ⟨p, s, l, st⟩ _).mono ?_; rintro e w1 ⟨rfl, os, d, rfl⟩)
        exact bodyPost_ret (v := .tuple #[.agg #[.int .i64 p, .int .i64 s, .int .i64 p, .int .i64 st], .bool true]) (by simp [results, Try.results45, go_sem]) rfl ⟨by rw [HT.out], (((Gro.refl _).alloc _).alloc _).more _ _⟩

end Go.Proofs.Ytnapkbdnpjgnmaa
