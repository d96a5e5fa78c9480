/-
  SAMEFRAMES of the laws: whether two lists are the same.
-/
import Derived.Test.YtdlkoffandhclaaLsFrame
import Derived.Test.YtdlkoffandhclaaStacks
import Derived.BigQuiet
set_option linter.unusedVariables false
set_option linter.unusedSimpArgs false
namespace Go.Proofs.Ytdlkoffandhclaa
open Go.RowKit
set_option maxRecDepth 100000 in
set_option maxHeartbeats 2000000 in
theorem sameFrames_l {xs ys : List DFrame} {w : World} {A A' : Option Addr} {c c' : Nat} (hx : (tFrame.sl 63).R w w.heap.size [.slice A xs.length c] xs) (hy : (tFrame.sl 63).R w w.heap.size [.slice A' ys.length c'] ys) :
    Calls Try.prog 23 #[.slice A xs.length c, .slice A' ys.length c'] w fun e w' => e = .returned (.bool (decide (xs = ys))) ∧ Gro w w' := by
  obtain ⟨_, _, hv, h1, h2⟩ := sl_at hx
  obtain ⟨_, _, hv', k1, k2⟩ := sl_at hy
  injection hv with q1 _ q2
  injection hv' with q3 _ q4
  subst q1 q2 q3 q4
  by_cases hl : xs.length = ys.length
  · have hne : ((xs.length : Int) != (ys.length : Int)) = false := by simp [hl]
    have HL := Lib.hid hl
    have hll : xs.length ≤ ys.length := by omega
    clear hl
    go_enter Try.func23, Try.ntmps23
    go_wp2_with (fail)
    go_loopw [5] (fun i wr => ∃ k : Nat, k ≤ xs.length ∧ i = .int .i64 k ∧ Hid (Gro w wr) ∧ Hid (xs.take k = ys.take k)) (fun i _ => xs.length - (intOf i).toNat)
    case atStart => exact ⟨0, Nat.zero_le _, rfl, Gro.refl _, Lib.hid (by simp)⟩
    case round =>
      obtain ⟨k, hk, rfl, hG, HT⟩ := hrel
      obtain ⟨os, d, rfl⟩ := hG.out
      clear hG
      by_cases hlt : k < xs.length
      · have hlt2 : k < ys.length := by omega
        obtain ⟨g, off, x, rfl, hgb, hxk, hx0, hx1, bx0, bx1⟩ := atFrame hx hlt
        obtain ⟨g', off', y, rfl, hgb', hyk, hy0, hy1, by0, by1⟩ := atFrame hy hlt2
        have HX := Lib.hid hxk
        have HY := Lib.hid hyk
        have hi1 : (k : Int) < (xs.length : Int) := by omega
        have hi2 : (k : Int) < (ys.length : Int) := by omega
        clear hxk hyk hx hy
        by_cases hs : x.Name = y.Name
        · have hsb : (x.Name.toList == y.Name.toList) = true := by rw [str_eqb]; simp [hs]
          by_cases hc : x.Line = y.Line
          · have hcb : (x.Line == y.Line) = true := by simp [hc]
            have HXY := Lib.hid (show x = y from by cases x; cases y; simp only at hs hc; rw [hs, hc])
            clear hs hc
            go_wp2_with (fail)
            go_quiet (fail)
            go_wp2_with (fail)
            go_roundw
            case rel => exact ⟨k + 1, by omega, by go_num, Lib.hid (by repeat (first | with_reducible exact Gro.refl _ | with_reducible exact Gro.refl_drew _ _ _ | with_reducible exact Gro.refl_drewN _ _ _ _ | assumption | with_reducible apply Gro.more | with_reducible apply Gro.alloc | with_reducible apply Gro.drew | with_reducible apply Gro.drewN)), Lib.hid (by rw [take_snoc HX.out, take_snoc HY.out, HT.out, HXY.out])⟩
            case measure => simp [intOf]; omega
          · have hcb : (x.Line == y.Line) = false := by simp [hc]
            have HXY := Lib.hid (show x ≠ y from by rintro rfl; exact hc rfl)
            clear hs hc
            go_wp2_with (fail)
            go_quiet (fail)
            go_wp2_with (fail)
            go_ret
            refine ⟨ret_bool ?_, (by repeat (first | with_reducible exact Gro.refl _ | with_reducible exact Gro.refl_drew _ _ _ | with_reducible exact Gro.refl_drewN _ _ _ _ | assumption | with_reducible apply Gro.more | with_reducible apply Gro.alloc | with_reducible apply Gro.drew | with_reducible apply Gro.drewN))⟩
            symm
            simp only [decide_eq_false_iff_not]
            rintro rfl
            have h9 := HX.out.symm.trans HY.out
            simp at h9
            exact HXY.out h9
        · have hsb : (x.Name.toList == y.Name.toList) = false := by rw [str_eqb]; simp [hs]
          have HXY := Lib.hid (show x ≠ y from by rintro rfl; exact hs rfl)
          clear hs
          go_wp2_with (fail)
          go_quiet (fail)
          go_wp2_with (fail)
          go_ret
          refine ⟨ret_bool ?_, (by repeat (first | with_reducible exact Gro.refl _ | with_reducible exact Gro.refl_drew _ _ _ | with_reducible exact Gro.refl_drewN _ _ _ _ | assumption | with_reducible apply Gro.more | with_reducible apply Gro.alloc | with_reducible apply Gro.drew | with_reducible apply Gro.drewN))⟩
          symm
          simp only [decide_eq_false_iff_not]
          rintro rfl
          have h9 := HX.out.symm.trans HY.out
          simp at h9
          exact HXY.out h9
      · go_wp2
        go_ret
        refine ⟨ret_bool ?_, (by repeat (first | with_reducible exact Gro.refl _ | with_reducible exact Gro.refl_drew _ _ _ | with_reducible exact Gro.refl_drewN _ _ _ _ | assumption | with_reducible apply Gro.more | with_reducible apply Gro.alloc | with_reducible apply Gro.drew | with_reducible apply Gro.drewN))⟩
        have : k = xs.length := by omega
        subst this
        have h1 := HT.out
        rw [HL.out] at h1
        simp only [List.take_length] at h1
        rw [← HL.out] at h1
        simp at h1
        simp [h1]
  · have hne : ((xs.length : Int) != (ys.length : Int)) = true := by simp; omega
    go_enter Try.func23, Try.ntmps23
    go_wp2
    go_ret
    exact ⟨ret_bool (by symm; simp only [decide_eq_false_iff_not]; rintro rfl; exact hl rfl), Gro.refl _⟩
end Go.Proofs.Ytdlkoffandhclaa
