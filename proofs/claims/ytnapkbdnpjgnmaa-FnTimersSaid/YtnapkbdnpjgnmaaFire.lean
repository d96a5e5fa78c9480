/-
  FIRETICKS of the program and of the reference: both give fire.
-/
import Derived.Test.YtnapkbdnpjgnmaaTimer
import Derived.Test.YtnapkbdnpjgnmaaLists
import Derived.Test.YtnapkbdnpjgnmaaAppend
set_option linter.unusedVariables false
set_option linter.unusedSimpArgs false
namespace Go.Proofs.Ytnapkbdnpjgnmaa
open Go.RowKit
theorem gro_fold (X : World) (os os1 : Array Obj) (d d1 : Nat) (b : Obj) : (gro (gro X os d) os1 d1).alloc b = gro X ((os ++ os1).push b) d1 := by rw [gro_gro, gro_alloc]
theorem el_int : Elem Try.prog 40 3 intT 8 := by
  obtain ⟨i0, hi, hz0, hz1, hz2⟩ := info_parts toIntS_info
  exact ⟨Try.underlying40, ⟨i0, _, hi, hz0, hz1, hz2, rfl⟩, by decide⟩
def fireL (t : DTimer) : Nat → List Int × DTimer
  | 0 => ([], t)
  | n + 1 => (if (tick (fireL t n).2).2 then (fireL t n).1 ++ [(n : Int)] else (fireL t n).1, (tick (fireL t n).2).1)
theorem fireL_len (t : DTimer) (n : Nat) : (fireL t n).1.length ≤ n := by
  induction n with
  | zero => simp [fireL]
  | succ n ih =>
    simp only [fireL]
    split
    · simp; omega
    · omega
theorem fireL_not {t : DTimer} (h : timerOk t = false) (n : Nat) : fireL t n = ([], t) := by
  induction n with
  | zero => rfl
  | succ n ih => simp [fireL, ih, tick, h]
def fire (t : DTimer) (n : Int) : List Int := if timerOk t && btw n 0 3000 then (fireL t n.toNat).1 else []
theorem fire_len (t : DTimer) (n : Int) : (fire t n).length ≤ 3000 := by
  unfold fire
  split
  · rename_i h
    simp only [Bool.and_eq_true, btw_iff] at h
    have := fireL_len t n.toNat
    omega
  · simp
theorem fire_eq (t : DTimer) (n : Nat) (h : btw n 0 3000 = true) : fire t n = (fireL t n).1 := by
  unfold fire
  cases ht : timerOk t
  · simp [fireL_not ht]
  · simp [h]
set_option maxRecDepth 100000 in
set_option maxHeartbeats 800000 in
theorem fire_i (t : DTimer) (n : Int) (w : World) : Calls Try.prog 17 #[tmV t, .int .i64 n] w (RetSl intT 3 (fire t n) w) := by
  cases hok : timerOk t
  · have HF := Lib.hid (show fire t n = [] from by simp [fire, hok])
    go_enter Try.func17, Try.ntmps17
    go_wp2_with (first | (go_at_call 21; (with_reducible refine (timerOk_i t _).mono ?_); rintro e w1 ⟨rfl, os0, dd0, rfl⟩) | (go_at_call 34; (with_reducible refine (in_i _ _ _ _).mono ?_); rintro e w1 ⟨rfl, rfl⟩))
    go_ret
    rw [HF.out]
    exact ⟨none, 0, rfl, fresh_nil _ _, (by repeat (first | with_reducible exact Gro.refl _ | with_reducible exact Gro.refl_drew _ _ _ | with_reducible exact Gro.refl_drewN _ _ _ _ | assumption | with_reducible apply Gro.more | with_reducible apply Gro.alloc | with_reducible apply Gro.drew | with_reducible apply Gro.drewN))⟩
  · cases hb : btw n 0 3000
    · have HF := Lib.hid (show fire t n = [] from by simp [fire, hb])
      go_enter Try.func17, Try.ntmps17
      go_wp2_with (first | (go_at_call 21; (with_reducible refine (timerOk_i t _).mono ?_); rintro e w1 ⟨rfl, os0, dd0, rfl⟩) | (go_at_call 34; (with_reducible refine (in_i _ _ _ _).mono ?_); rintro e w1 ⟨rfl, rfl⟩))
      go_ret
      rw [HF.out]
      exact ⟨none, 0, rfl, fresh_nil _ _, (by repeat (first | with_reducible exact Gro.refl _ | with_reducible exact Gro.refl_drew _ _ _ | with_reducible exact Gro.refl_drewN _ _ _ _ | assumption | with_reducible apply Gro.more | with_reducible apply Gro.alloc | with_reducible apply Gro.drew | with_reducible apply Gro.drewN))⟩
    · skip
      obtain ⟨hn0, hn1⟩ := btw_iff.1 hb
      obtain ⟨n, rfl⟩ := Int.eq_ofNat_of_zero_le hn0
      have HF := Lib.hid (show fire t n = (fireL t n).1 from fire_eq t n hb)
      go_enter Try.func17, Try.ntmps17
      go_wp2_with (first | (go_at_call 21; (with_reducible refine (timerOk_i t _).mono ?_); rintro e w1 ⟨rfl, os0, dd0, rfl⟩) | (go_at_call 34; (with_reducible refine (in_i _ _ _ _).mono ?_); rintro e w1 ⟨rfl, rfl⟩))
      go_loopw [5, 6] (fun v i wr => ∃ (j : Nat) (A : Option Addr) (c : Nat) (os : Array Obj) (d : Nat), j ≤ n ∧ i = .int .i64 j ∧ v = .slice A (fireL t j).1.length c ∧ Hid (wr = gro (w.alloc (.cells #[.int .i64 (fireL t j).2.Period, .int .i64 (fireL t j).2.Spread, .int .i64 (fireL t j).2.Left, .int .i64 (fireL t j).2.State] 38)) os d) ∧ Hid (Fresh (intT.sl 3) (w.alloc (.cells #[.int .i64 t.Period, .int .i64 t.Spread, .int .i64 t.Left, .int .i64 t.State] 38)) wr [.slice A (fireL t j).1.length c] (fireL t j).1)) (fun _ i _ => n - (intOf i).toNat)
      case atStart => exact ⟨0, _, 0, _, _, Nat.zero_le _, rfl, rfl, gro_alloc _ _ _, fresh_empty (by repeat (first | with_reducible exact Gro.refl _ | with_reducible exact Gro.refl_drew _ _ _ | with_reducible exact Gro.refl_drewN _ _ _ _ | assumption | with_reducible apply Gro.more | with_reducible apply Gro.alloc | with_reducible apply Gro.drew | with_reducible apply Gro.drewN)) (by simp)⟩
      case round =>
        obtain ⟨j, A, c, os, d, hj, rfl, rfl, hw, hF⟩ := hrel
        have hw' := hw.out
        subst hw'
        clear hw
        by_cases hlt : j < n
        · have hsz := fireL_len t j
          have HN := Lib.hid (show fireL t (j + 1) = (if (tick (fireL t j).2).2 then (fireL t j).1 ++ [(j : Int)] else (fireL t j).1, (tick (fireL t j).2).1) from rfl)
          generalize (fireL t j).2 = u at HN hF ⊢
          generalize (fireL t j).1 = l at HN hF hsz ⊢
          cases hf : (tick u).2
          · rw [hf] at HN
            go_wp2_with (go_at_call 18; (with_reducible refine (tick_i u _).mono ?_); rintro e w1 ⟨rfl, os1, d1, rfl⟩)
            go_roundw
            case rel =>
              rw [if_neg (by simp)] at HN
              refine ⟨j + 1, A, c, _, _, by omega, by go_num, by rw [HN.out], (by rw [HN.out]; exact gro_fold _ _ _ _ _ _), ?_⟩
              rw [HN.out]
              exact (hF.out.fre.same (by repeat (first | with_reducible exact Same.refl _ _ _ | ((with_reducible refine Same.base ?_ ?_) <;> (simp <;> omega)) | ((with_reducible refine Same.more ?_ ?_ _ _); rotate_left; simp <;> omega) | ((with_reducible refine Same.alloc ?_ ?_ _); rotate_left; simp <;> omega) | with_reducible apply Same.drew | with_reducible apply Same.drewN))).fresh
            case measure => simp [intOf]; omega
          · rw [hf, if_pos rfl] at HN
            go_wp2_with (first
              | (go_at_call 18; (with_reducible refine (tick_i u _).mono ?_); rintro e w1 ⟨rfl, os1, d1, rfl⟩)
              | (at_builtin; go_must (refine wpList_append_fone (W0 := w.alloc (.cells #[.int .i64 (tick u).1.Period, .int .i64 (tick u).1.Spread, .int .i64 (tick u).1.Left, .int .i64 (tick u).1.State] 38)) rfl (.tmp 30) (.tmp 32) el_int flat_int ((hF.out.fre.same (by repeat (first | with_reducible exact Same.refl _ _ _ | ((with_reducible refine Same.base ?_ ?_) <;> (simp <;> omega)) | ((with_reducible refine Same.more ?_ ?_ _ _); rotate_left; simp <;> omega) | ((with_reducible refine Same.alloc ?_ ?_ _); rotate_left; simp <;> omega) | with_reducible apply Same.drew | with_reducible apply Same.drewN))).since (by simp)) (by repeat (first | with_reducible exact Gro.refl _ | with_reducible exact Gro.refl_drew _ _ _ | with_reducible exact Gro.refl_drewN _ _ _ _ | assumption | with_reducible apply Gro.more | with_reducible apply Gro.alloc | with_reducible apply Gro.drew | with_reducible apply Gro.drewN)) (W1 := w) (B := 0) (y := (j : Int)) (ec := [.int .i64 j]) ⟨rfl, by omega, by omega⟩ rfl rfl rfl (by intro i x hx; simpa [go_sem] using hx) rfl (by omega) (by omega) ?_); intro B1 d3 os3 d4 hF3))
            go_roundw
            case rel =>
              refine ⟨j + 1, B1, d3, _, _, by omega, by go_num, by rw [HN.out]; simp, (by rw [HN.out]; rfl), ?_⟩
              rw [HN.out]
              have h := hF3.since (w0 := w.alloc (.cells #[.int .i64 t.Period, .int .i64 t.Spread, .int .i64 t.Left, .int .i64 t.State] 38)) (by simp)
              rw [List.length_append]
              exact h
            case measure => simp [intOf]; omega
        · have hje : j = n := by omega
          subst hje
          go_wp2
          go_ret
          rw [HF.out]
          exact ⟨A, c, rfl, hF.out.since (by simp), (by repeat (first | with_reducible exact Gro.refl _ | with_reducible exact Gro.refl_drew _ _ _ | with_reducible exact Gro.refl_drewN _ _ _ _ | assumption | with_reducible apply Gro.more | with_reducible apply Gro.alloc | with_reducible apply Gro.drew | with_reducible apply Gro.drewN))⟩
end Go.Proofs.Ytnapkbdnpjgnmaa
