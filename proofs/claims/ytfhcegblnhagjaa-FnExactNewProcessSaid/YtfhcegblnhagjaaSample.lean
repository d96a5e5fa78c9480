/-
  SAMPLE (written by gen/sample.py): Signless, ViewOk, SampleOk of the program and of the reference.
-/
import Derived.Test.YtfhcegblnhagjaaFnSample
import Derived.Test.YtfhcegblnhagjaaAppend
set_option linter.unusedVariables false
set_option linter.unusedSimpArgs false
namespace Go.Proofs.Ytfhcegblnhagjaa
open Go.RowKit
theorem allT_succ {α : Type} {xs : List α} {f : α → Bool} {j : Nat} {x : α} (h : xs[j]? = some x) (ha : (xs.take j).all f = true) (hf : f x = true) : (xs.take (j + 1)).all f = true := by
  rw [take_snoc h, List.all_append, ha]
  simp [hf]
theorem allT_false {α : Type} {xs : List α} {f : α → Bool} {j : Nat} {x : α} (h : xs[j]? = some x) (hf : f x = false) : xs.all f = false := by
  rw [List.all_eq_false]
  exact ⟨x, List.mem_of_getElem? h, by simp [hf]⟩
def signless (n : Int) : Int := if btw n (-549755813888) 549755813887 then (if n < 0 then -2 * n - 1 else 2 * n) else -1
theorem signless_neg (n : Int) : decide (signless n < 0) = !btw n (-549755813888) 549755813887 := by
  unfold signless
  cases h : btw n (-549755813888) 549755813887
  · simp
  · rw [if_pos rfl]; split <;> simp <;> omega
theorem signless_i (n : Int) (w : World) : Calls Try.prog 99 #[.int .i64 n] w fun e w' => e = .returned (.int .i64 (signless n)) ∧ w = w' := by
  cases hb : btw n (-549755813888) 549755813887
  · have HS := Lib.hid (show signless n = -1 from by simp [signless, hb])
    go_enter Try.func99, Try.ntmps99
    go_wp2_with (first
      | (go_at_call 48; (with_reducible refine (in_i _ _ _ _).mono ?_); rintro e w1 ⟨rfl, rfl⟩))
    go_ret
    exact ⟨ret_int HS.out.symm, rfl⟩
  · obtain ⟨hb1, hb2⟩ := btw_iff.1 hb
    have HS := Lib.hid (show signless n = (if n < 0 then -2 * n - 1 else 2 * n) from by simp [signless, hb])
    by_cases hn : n < 0
    · have HT := Lib.hid (HS.out.trans (if_pos hn))
      go_enter Try.func99, Try.ntmps99
      go_wp2_with (first
        | (go_at_call 48; (with_reducible refine (in_i _ _ _ _).mono ?_); rintro e w1 ⟨rfl, rfl⟩))
      go_ret
      exact ⟨ret_int HT.out.symm, rfl⟩
    · have HT := Lib.hid (HS.out.trans (if_neg hn))
      go_enter Try.func99, Try.ntmps99
      go_wp2_with (first
        | (go_at_call 48; (with_reducible refine (in_i _ _ _ _).mono ?_); rintro e w1 ⟨rfl, rfl⟩))
      go_ret
      exact ⟨ret_int HT.out.symm, rfl⟩
theorem signless_s (n : Int) (w : World) : Calls Try.prog 96 #[.int .i64 n] w fun e w' => e = .returned (.int .i64 (signless n)) ∧ w = w' := by
  cases hb : btw n (-549755813888) 549755813887
  · have HS := Lib.hid (show signless n = -1 from by simp [signless, hb])
    go_enter Try.func96, Try.ntmps96
    go_wp2_with (first
      | (go_at_call 44; (with_reducible refine (in_s _ _ _ _).mono ?_); rintro e w1 ⟨rfl, rfl⟩))
    go_ret
    exact ⟨ret_int HS.out.symm, rfl⟩
  · obtain ⟨hb1, hb2⟩ := btw_iff.1 hb
    have HS := Lib.hid (show signless n = (if n < 0 then -2 * n - 1 else 2 * n) from by simp [signless, hb])
    by_cases hn : n < 0
    · have HT := Lib.hid (HS.out.trans (if_pos hn))
      go_enter Try.func96, Try.ntmps96
      go_wp2_with (first
        | (go_at_call 44; (with_reducible refine (in_s _ _ _ _).mono ?_); rintro e w1 ⟨rfl, rfl⟩))
      go_ret
      exact ⟨ret_int HT.out.symm, rfl⟩
    · have HT := Lib.hid (HS.out.trans (if_neg hn))
      go_enter Try.func96, Try.ntmps96
      go_wp2_with (first
        | (go_at_call 44; (with_reducible refine (in_s _ _ _ _).mono ?_); rintro e w1 ⟨rfl, rfl⟩))
      go_ret
      exact ⟨ret_int HT.out.symm, rfl⟩
def viewOk (v : DView) : Bool := btw v.Sp 0 1200 && decide ((v.Words.length : Int) ≤ 1200 - v.Sp)
theorem viewOk_i (v : DView) (A : Option Addr) (c : Nat) (w : World) (_ : v.Words.length ≤ 1099511627776) : Calls Try.prog 98 #[.agg #[.int .i64 v.Pc, .int .i64 v.Sp, .int .i64 v.Fp, .slice A v.Words.length c]] w fun e w' => e = .returned (.bool (viewOk v)) ∧ Gro w w' := by
  cases hb : btw v.Sp 0 1200
  · have HS := Lib.hid (show viewOk v = false from by simp [viewOk, hb])
    go_enter Try.func98, Try.ntmps98
    go_wp2_with (first
      | (go_at_call 48; (with_reducible refine (in_i _ _ _ _).mono ?_); rintro e w1 ⟨rfl, rfl⟩))
    go_ret
    exact ⟨ret_bool HS.out.symm, (by repeat (first | with_reducible exact Gro.refl _ | with_reducible exact Gro.refl_drew _ _ _ | with_reducible exact Gro.refl_drewN _ _ _ _ | assumption | with_reducible apply Gro.more | with_reducible apply Gro.alloc | with_reducible apply Gro.drew | with_reducible apply Gro.drewN))⟩
  · obtain ⟨hb1, hb2⟩ := btw_iff.1 hb
    have HS := Lib.hid (show viewOk v = decide ((v.Words.length : Int) ≤ 1200 - v.Sp) from by simp [viewOk, hb])
    go_enter Try.func98, Try.ntmps98
    go_wp2_with (first
      | (go_at_call 48; (with_reducible refine (in_i _ _ _ _).mono ?_); rintro e w1 ⟨rfl, rfl⟩))
    go_ret
    exact ⟨ret_bool HS.out.symm, (by repeat (first | with_reducible exact Gro.refl _ | with_reducible exact Gro.refl_drew _ _ _ | with_reducible exact Gro.refl_drewN _ _ _ _ | assumption | with_reducible apply Gro.more | with_reducible apply Gro.alloc | with_reducible apply Gro.drew | with_reducible apply Gro.drewN))⟩
theorem viewOk_s (v : DView) (A : Option Addr) (c : Nat) (w : World) (_ : v.Words.length ≤ 1099511627776) : Calls Try.prog 95 #[.agg #[.int .i64 v.Pc, .int .i64 v.Sp, .int .i64 v.Fp, .slice A v.Words.length c]] w fun e w' => e = .returned (.bool (viewOk v)) ∧ Gro w w' := by
  cases hb : btw v.Sp 0 1200
  · have HS := Lib.hid (show viewOk v = false from by simp [viewOk, hb])
    go_enter Try.func95, Try.ntmps95
    go_wp2_with (first
      | (go_at_call 44; (with_reducible refine (in_s _ _ _ _).mono ?_); rintro e w1 ⟨rfl, rfl⟩))
    go_ret
    exact ⟨ret_bool HS.out.symm, (by repeat (first | with_reducible exact Gro.refl _ | with_reducible exact Gro.refl_drew _ _ _ | with_reducible exact Gro.refl_drewN _ _ _ _ | assumption | with_reducible apply Gro.more | with_reducible apply Gro.alloc | with_reducible apply Gro.drew | with_reducible apply Gro.drewN))⟩
  · obtain ⟨hb1, hb2⟩ := btw_iff.1 hb
    have HS := Lib.hid (show viewOk v = decide ((v.Words.length : Int) ≤ 1200 - v.Sp) from by simp [viewOk, hb])
    go_enter Try.func95, Try.ntmps95
    go_wp2_with (first
      | (go_at_call 44; (with_reducible refine (in_s _ _ _ _).mono ?_); rintro e w1 ⟨rfl, rfl⟩))
    go_ret
    exact ⟨ret_bool HS.out.symm, (by repeat (first | with_reducible exact Gro.refl _ | with_reducible exact Gro.refl_drew _ _ _ | with_reducible exact Gro.refl_drewN _ _ _ _ | assumption | with_reducible apply Gro.more | with_reducible apply Gro.alloc | with_reducible apply Gro.drew | with_reducible apply Gro.drewN))⟩
def sampleOk (x : DSample) : Bool := btw x.Thread 0 2 && (viewOk x.View && (btw x.View.Pc 0 2000000 && (btw x.View.Fp (-549755813888) 549755813887 && x.View.Words.all fun n => btw n (-549755813888) 549755813887)))
set_option maxRecDepth 100000 in
theorem sampleOk_i {x : DSample} {w : World} {A0 : Option Addr} {c0 : Nat} (h1 : (intT.sl 3).R w w.heap.size [.slice A0 x.View.Words.length c0] x.View.Words) (hs : x.View.Words.length ≤ 1099511627776) :
    Calls Try.prog 67 #[.agg #[.int .i64 x.Thread, .int .i64 x.View.Pc, .int .i64 x.View.Sp, .int .i64 x.View.Fp, .slice A0 x.View.Words.length c0]] w fun e w' => e = .returned (.bool (sampleOk x)) ∧ Gro w w' := by
  obtain ⟨th, v⟩ := x
  obtain ⟨Pc, Sp, Fp, rs⟩ := v
  simp only at h1 hs ⊢
  cases b1 : btw th 0 2
  · have HS := Lib.hid (show sampleOk ⟨th, ⟨Pc, Sp, Fp, rs⟩⟩ = false from by simp [sampleOk, b1])
    go_enter Try.func67, Try.ntmps67
    go_wp2_with (first
      | (go_at_call 48; (with_reducible refine (in_i _ _ _ _).mono ?_); rintro e w1 ⟨rfl, rfl⟩)
      | (go_at_call 98; (with_reducible refine (viewOk_i ⟨Pc, Sp, Fp, rs⟩ _ _ _ hs).mono ?_); rintro e w1 ⟨rfl, os, d, rfl⟩)
      | (go_at_call 99; (with_reducible refine (signless_i _ _).mono ?_); rintro e w1 ⟨rfl, rfl⟩))
    go_ret
    exact ⟨ret_bool HS.out.symm, (by repeat (first | with_reducible exact Gro.refl _ | with_reducible exact Gro.refl_drew _ _ _ | with_reducible exact Gro.refl_drewN _ _ _ _ | assumption | with_reducible apply Gro.more | with_reducible apply Gro.alloc | with_reducible apply Gro.drew | with_reducible apply Gro.drewN))⟩
  cases b2 : viewOk ⟨Pc, Sp, Fp, rs⟩
  · have HS := Lib.hid (show sampleOk ⟨th, ⟨Pc, Sp, Fp, rs⟩⟩ = false from by simp [sampleOk, b2])
    go_enter Try.func67, Try.ntmps67
    go_wp2_with (first
      | (go_at_call 48; (with_reducible refine (in_i _ _ _ _).mono ?_); rintro e w1 ⟨rfl, rfl⟩)
      | (go_at_call 98; (with_reducible refine (viewOk_i ⟨Pc, Sp, Fp, rs⟩ _ _ _ hs).mono ?_); rintro e w1 ⟨rfl, os, d, rfl⟩)
      | (go_at_call 99; (with_reducible refine (signless_i _ _).mono ?_); rintro e w1 ⟨rfl, rfl⟩))
    go_ret
    exact ⟨ret_bool HS.out.symm, (by repeat (first | with_reducible exact Gro.refl _ | with_reducible exact Gro.refl_drew _ _ _ | with_reducible exact Gro.refl_drewN _ _ _ _ | assumption | with_reducible apply Gro.more | with_reducible apply Gro.alloc | with_reducible apply Gro.drew | with_reducible apply Gro.drewN))⟩
  cases b3 : btw Pc 0 2000000
  · have HS := Lib.hid (show sampleOk ⟨th, ⟨Pc, Sp, Fp, rs⟩⟩ = false from by simp [sampleOk, b3])
    go_enter Try.func67, Try.ntmps67
    go_wp2_with (first
      | (go_at_call 48; (with_reducible refine (in_i _ _ _ _).mono ?_); rintro e w1 ⟨rfl, rfl⟩)
      | (go_at_call 98; (with_reducible refine (viewOk_i ⟨Pc, Sp, Fp, rs⟩ _ _ _ hs).mono ?_); rintro e w1 ⟨rfl, os, d, rfl⟩)
      | (go_at_call 99; (with_reducible refine (signless_i _ _).mono ?_); rintro e w1 ⟨rfl, rfl⟩))
    go_ret
    exact ⟨ret_bool HS.out.symm, (by repeat (first | with_reducible exact Gro.refl _ | with_reducible exact Gro.refl_drew _ _ _ | with_reducible exact Gro.refl_drewN _ _ _ _ | assumption | with_reducible apply Gro.more | with_reducible apply Gro.alloc | with_reducible apply Gro.drew | with_reducible apply Gro.drewN))⟩
  cases b4 : btw Fp (-549755813888) 549755813887
  · have HS := Lib.hid (show sampleOk ⟨th, ⟨Pc, Sp, Fp, rs⟩⟩ = false from by simp [sampleOk, b4])
    have b5 : decide (signless Fp < 0) = true := by rw [signless_neg, b4]; rfl
    go_enter Try.func67, Try.ntmps67
    go_wp2_with (first
      | (go_at_call 48; (with_reducible refine (in_i _ _ _ _).mono ?_); rintro e w1 ⟨rfl, rfl⟩)
      | (go_at_call 98; (with_reducible refine (viewOk_i ⟨Pc, Sp, Fp, rs⟩ _ _ _ hs).mono ?_); rintro e w1 ⟨rfl, os, d, rfl⟩)
      | (go_at_call 99; (with_reducible refine (signless_i _ _).mono ?_); rintro e w1 ⟨rfl, rfl⟩))
    go_ret
    exact ⟨ret_bool HS.out.symm, (by repeat (first | with_reducible exact Gro.refl _ | with_reducible exact Gro.refl_drew _ _ _ | with_reducible exact Gro.refl_drewN _ _ _ _ | assumption | with_reducible apply Gro.more | with_reducible apply Gro.alloc | with_reducible apply Gro.drew | with_reducible apply Gro.drewN))⟩
  have HR : Hid (sampleOk ⟨th, ⟨Pc, Sp, Fp, rs⟩⟩ = rs.all fun n => btw n (-549755813888) 549755813887) := by
    show sampleOk _ = _
    simp [sampleOk, b1, b2, b3, b4]
  have b5 : decide (signless Fp < 0) = false := by rw [signless_neg, b4]; rfl
  go_enter Try.func67, Try.ntmps67
  go_wp2_with (first
      | (go_at_call 48; (with_reducible refine (in_i _ _ _ _).mono ?_); rintro e w1 ⟨rfl, rfl⟩)
      | (go_at_call 98; (with_reducible refine (viewOk_i ⟨Pc, Sp, Fp, rs⟩ _ _ _ hs).mono ?_); rintro e w1 ⟨rfl, os, d, rfl⟩)
      | (go_at_call 99; (with_reducible refine (signless_i _ _).mono ?_); rintro e w1 ⟨rfl, rfl⟩))
  obtain ⟨_, _, hv, h2, h3⟩ := sl_at h1
  injection hv with hA hn hc
  subst hA hc
  clear hn
  go_loop [33] (fun i => ∃ (j : Nat), j ≤ rs.length ∧ i = .int .i64 j ∧ Hid ((rs.take j).all (fun n => btw n (-549755813888) 549755813887) = true)) (fun i => rs.length - (intOf i).toNat)
  case atStart => exact ⟨0, Nat.zero_le _, rfl, rfl⟩
  case round =>
    obtain ⟨j, hj, rfl, ha⟩ := hrel
    by_cases hlt : j < rs.length
    · obtain ⟨g, off, x, rfl, hxk, hcx, bx⟩ := ints_at h1 hlt
      have hgb := World.block_lt_of_cell? _ _ hcx
      simp only at hgb
      have HX := Lib.hid hxk
      have H1 := Lib.hid h1
      clear hxk h1
      cases hb : btw x (-549755813888) 549755813887
      · have HF := Lib.hid (allT_false (f := fun n : Int => btw n (-549755813888) 549755813887) HX.out hb)
        have b6 : decide (signless x < 0) = true := by rw [signless_neg, hb]; rfl
        go_wp2_with (first
      | (go_at_call 48; (with_reducible refine (in_i _ _ _ _).mono ?_); rintro e w1 ⟨rfl, rfl⟩)
      | (go_at_call 98; (with_reducible refine (viewOk_i ⟨Pc, Sp, Fp, rs⟩ _ _ _ hs).mono ?_); rintro e w1 ⟨rfl, os, d, rfl⟩)
      | (go_at_call 99; (with_reducible refine (signless_i _ _).mono ?_); rintro e w1 ⟨rfl, rfl⟩))
        go_ret
        exact ⟨ret_bool (HR.out.trans HF.out).symm, (by repeat (first | with_reducible exact Gro.refl _ | with_reducible exact Gro.refl_drew _ _ _ | with_reducible exact Gro.refl_drewN _ _ _ _ | assumption | with_reducible apply Gro.more | with_reducible apply Gro.alloc | with_reducible apply Gro.drew | with_reducible apply Gro.drewN))⟩
      · have b6 : decide (signless x < 0) = false := by rw [signless_neg, hb]; rfl
        go_wp2_with (first
      | (go_at_call 48; (with_reducible refine (in_i _ _ _ _).mono ?_); rintro e w1 ⟨rfl, rfl⟩)
      | (go_at_call 98; (with_reducible refine (viewOk_i ⟨Pc, Sp, Fp, rs⟩ _ _ _ hs).mono ?_); rintro e w1 ⟨rfl, os, d, rfl⟩)
      | (go_at_call 99; (with_reducible refine (signless_i _ _).mono ?_); rintro e w1 ⟨rfl, rfl⟩))
        go_round
        case rel => exact ⟨j + 1, by omega, by go_num, allT_succ HX.out ha.out hb⟩
        case measure => simp [intOf]; omega
    · have hje : j = rs.length := by omega
      subst hje
      rw [List.take_length] at ha
      go_wp2_with (first
      | (go_at_call 48; (with_reducible refine (in_i _ _ _ _).mono ?_); rintro e w1 ⟨rfl, rfl⟩)
      | (go_at_call 98; (with_reducible refine (viewOk_i ⟨Pc, Sp, Fp, rs⟩ _ _ _ hs).mono ?_); rintro e w1 ⟨rfl, os, d, rfl⟩)
      | (go_at_call 99; (with_reducible refine (signless_i _ _).mono ?_); rintro e w1 ⟨rfl, rfl⟩))
      go_ret
      exact ⟨ret_bool (HR.out.trans ha.out).symm, (by repeat (first | with_reducible exact Gro.refl _ | with_reducible exact Gro.refl_drew _ _ _ | with_reducible exact Gro.refl_drewN _ _ _ _ | assumption | with_reducible apply Gro.more | with_reducible apply Gro.alloc | with_reducible apply Gro.drew | with_reducible apply Gro.drewN))⟩
set_option maxRecDepth 100000 in
theorem sampleOk_s {x : DSample} {w : World} {A0 : Option Addr} {c0 : Nat} (h1 : (intT.sl 3).R w w.heap.size [.slice A0 x.View.Words.length c0] x.View.Words) (hs : x.View.Words.length ≤ 1099511627776) :
    Calls Try.prog 65 #[.agg #[.int .i64 x.Thread, .int .i64 x.View.Pc, .int .i64 x.View.Sp, .int .i64 x.View.Fp, .slice A0 x.View.Words.length c0]] w fun e w' => e = .returned (.bool (sampleOk x)) ∧ Gro w w' := by
  obtain ⟨th, v⟩ := x
  obtain ⟨Pc, Sp, Fp, rs⟩ := v
  simp only at h1 hs ⊢
  cases b1 : btw th 0 2
  · have HS := Lib.hid (show sampleOk ⟨th, ⟨Pc, Sp, Fp, rs⟩⟩ = false from by simp [sampleOk, b1])
    go_enter Try.func65, Try.ntmps65
    go_wp2_with (first
      | (go_at_call 44; (with_reducible refine (in_s _ _ _ _).mono ?_); rintro e w1 ⟨rfl, rfl⟩)
      | (go_at_call 95; (with_reducible refine (viewOk_s ⟨Pc, Sp, Fp, rs⟩ _ _ _ hs).mono ?_); rintro e w1 ⟨rfl, os, d, rfl⟩)
      | (go_at_call 96; (with_reducible refine (signless_s _ _).mono ?_); rintro e w1 ⟨rfl, rfl⟩))
    go_ret
    exact ⟨ret_bool HS.out.symm, (by repeat (first | with_reducible exact Gro.refl _ | with_reducible exact Gro.refl_drew _ _ _ | with_reducible exact Gro.refl_drewN _ _ _ _ | assumption | with_reducible apply Gro.more | with_reducible apply Gro.alloc | with_reducible apply Gro.drew | with_reducible apply Gro.drewN))⟩
  cases b2 : viewOk ⟨Pc, Sp, Fp, rs⟩
  · have HS := Lib.hid (show sampleOk ⟨th, ⟨Pc, Sp, Fp, rs⟩⟩ = false from by simp [sampleOk, b2])
    go_enter Try.func65, Try.ntmps65
    go_wp2_with (first
      | (go_at_call 44; (with_reducible refine (in_s _ _ _ _).mono ?_); rintro e w1 ⟨rfl, rfl⟩)
      | (go_at_call 95; (with_reducible refine (viewOk_s ⟨Pc, Sp, Fp, rs⟩ _ _ _ hs).mono ?_); rintro e w1 ⟨rfl, os, d, rfl⟩)
      | (go_at_call 96; (with_reducible refine (signless_s _ _).mono ?_); rintro e w1 ⟨rfl, rfl⟩))
    go_ret
    exact ⟨ret_bool HS.out.symm, (by repeat (first | with_reducible exact Gro.refl _ | with_reducible exact Gro.refl_drew _ _ _ | with_reducible exact Gro.refl_drewN _ _ _ _ | assumption | with_reducible apply Gro.more | with_reducible apply Gro.alloc | with_reducible apply Gro.drew | with_reducible apply Gro.drewN))⟩
  cases b3 : btw Pc 0 2000000
  · have HS := Lib.hid (show sampleOk ⟨th, ⟨Pc, Sp, Fp, rs⟩⟩ = false from by simp [sampleOk, b3])
    go_enter Try.func65, Try.ntmps65
    go_wp2_with (first
      | (go_at_call 44; (with_reducible refine (in_s _ _ _ _).mono ?_); rintro e w1 ⟨rfl, rfl⟩)
      | (go_at_call 95; (with_reducible refine (viewOk_s ⟨Pc, Sp, Fp, rs⟩ _ _ _ hs).mono ?_); rintro e w1 ⟨rfl, os, d, rfl⟩)
      | (go_at_call 96; (with_reducible refine (signless_s _ _).mono ?_); rintro e w1 ⟨rfl, rfl⟩))
    go_ret
    exact ⟨ret_bool HS.out.symm, (by repeat (first | with_reducible exact Gro.refl _ | with_reducible exact Gro.refl_drew _ _ _ | with_reducible exact Gro.refl_drewN _ _ _ _ | assumption | with_reducible apply Gro.more | with_reducible apply Gro.alloc | with_reducible apply Gro.drew | with_reducible apply Gro.drewN))⟩
  cases b4 : btw Fp (-549755813888) 549755813887
  · have HS := Lib.hid (show sampleOk ⟨th, ⟨Pc, Sp, Fp, rs⟩⟩ = false from by simp [sampleOk, b4])
    have b5 : decide (signless Fp < 0) = true := by rw [signless_neg, b4]; rfl
    go_enter Try.func65, Try.ntmps65
    go_wp2_with (first
      | (go_at_call 44; (with_reducible refine (in_s _ _ _ _).mono ?_); rintro e w1 ⟨rfl, rfl⟩)
      | (go_at_call 95; (with_reducible refine (viewOk_s ⟨Pc, Sp, Fp, rs⟩ _ _ _ hs).mono ?_); rintro e w1 ⟨rfl, os, d, rfl⟩)
      | (go_at_call 96; (with_reducible refine (signless_s _ _).mono ?_); rintro e w1 ⟨rfl, rfl⟩))
    go_ret
    exact ⟨ret_bool HS.out.symm, (by repeat (first | with_reducible exact Gro.refl _ | with_reducible exact Gro.refl_drew _ _ _ | with_reducible exact Gro.refl_drewN _ _ _ _ | assumption | with_reducible apply Gro.more | with_reducible apply Gro.alloc | with_reducible apply Gro.drew | with_reducible apply Gro.drewN))⟩
  have HR : Hid (sampleOk ⟨th, ⟨Pc, Sp, Fp, rs⟩⟩ = rs.all fun n => btw n (-549755813888) 549755813887) := by
    show sampleOk _ = _
    simp [sampleOk, b1, b2, b3, b4]
  have b5 : decide (signless Fp < 0) = false := by rw [signless_neg, b4]; rfl
  go_enter Try.func65, Try.ntmps65
  go_wp2_with (first
      | (go_at_call 44; (with_reducible refine (in_s _ _ _ _).mono ?_); rintro e w1 ⟨rfl, rfl⟩)
      | (go_at_call 95; (with_reducible refine (viewOk_s ⟨Pc, Sp, Fp, rs⟩ _ _ _ hs).mono ?_); rintro e w1 ⟨rfl, os, d, rfl⟩)
      | (go_at_call 96; (with_reducible refine (signless_s _ _).mono ?_); rintro e w1 ⟨rfl, rfl⟩))
  obtain ⟨_, _, hv, h2, h3⟩ := sl_at h1
  injection hv with hA hn hc
  subst hA hc
  clear hn
  go_loop [3] (fun i => ∃ (j : Nat), j ≤ rs.length ∧ i = .int .i64 j ∧ Hid ((rs.take j).all (fun n => btw n (-549755813888) 549755813887) = true)) (fun i => rs.length - (intOf i).toNat)
  case atStart => exact ⟨0, Nat.zero_le _, rfl, rfl⟩
  case round =>
    obtain ⟨j, hj, rfl, ha⟩ := hrel
    by_cases hlt : j < rs.length
    · obtain ⟨g, off, x, rfl, hxk, hcx, bx⟩ := ints_at h1 hlt
      have hgb := World.block_lt_of_cell? _ _ hcx
      simp only at hgb
      have HX := Lib.hid hxk
      have H1 := Lib.hid h1
      clear hxk h1
      cases hb : btw x (-549755813888) 549755813887
      · have HF := Lib.hid (allT_false (f := fun n : Int => btw n (-549755813888) 549755813887) HX.out hb)
        have b6 : decide (signless x < 0) = true := by rw [signless_neg, hb]; rfl
        go_wp2_with (first
      | (go_at_call 44; (with_reducible refine (in_s _ _ _ _).mono ?_); rintro e w1 ⟨rfl, rfl⟩)
      | (go_at_call 95; (with_reducible refine (viewOk_s ⟨Pc, Sp, Fp, rs⟩ _ _ _ hs).mono ?_); rintro e w1 ⟨rfl, os, d, rfl⟩)
      | (go_at_call 96; (with_reducible refine (signless_s _ _).mono ?_); rintro e w1 ⟨rfl, rfl⟩))
        go_ret
        exact ⟨ret_bool (HR.out.trans HF.out).symm, (by repeat (first | with_reducible exact Gro.refl _ | with_reducible exact Gro.refl_drew _ _ _ | with_reducible exact Gro.refl_drewN _ _ _ _ | assumption | with_reducible apply Gro.more | with_reducible apply Gro.alloc | with_reducible apply Gro.drew | with_reducible apply Gro.drewN))⟩
      · have b6 : decide (signless x < 0) = false := by rw [signless_neg, hb]; rfl
        go_wp2_with (first
      | (go_at_call 44; (with_reducible refine (in_s _ _ _ _).mono ?_); rintro e w1 ⟨rfl, rfl⟩)
      | (go_at_call 95; (with_reducible refine (viewOk_s ⟨Pc, Sp, Fp, rs⟩ _ _ _ hs).mono ?_); rintro e w1 ⟨rfl, os, d, rfl⟩)
      | (go_at_call 96; (with_reducible refine (signless_s _ _).mono ?_); rintro e w1 ⟨rfl, rfl⟩))
        go_round
        case rel => exact ⟨j + 1, by omega, by go_num, allT_succ HX.out ha.out hb⟩
        case measure => simp [intOf]; omega
    · have hje : j = rs.length := by omega
      subst hje
      rw [List.take_length] at ha
      go_wp2_with (first
      | (go_at_call 44; (with_reducible refine (in_s _ _ _ _).mono ?_); rintro e w1 ⟨rfl, rfl⟩)
      | (go_at_call 95; (with_reducible refine (viewOk_s ⟨Pc, Sp, Fp, rs⟩ _ _ _ hs).mono ?_); rintro e w1 ⟨rfl, os, d, rfl⟩)
      | (go_at_call 96; (with_reducible refine (signless_s _ _).mono ?_); rintro e w1 ⟨rfl, rfl⟩))
      go_ret
      exact ⟨ret_bool (HR.out.trans ha.out).symm, (by repeat (first | with_reducible exact Gro.refl _ | with_reducible exact Gro.refl_drew _ _ _ | with_reducible exact Gro.refl_drewN _ _ _ _ | assumption | with_reducible apply Gro.more | with_reducible apply Gro.alloc | with_reducible apply Gro.drew | with_reducible apply Gro.drewN))⟩
end Go.Proofs.Ytfhcegblnhagjaa
