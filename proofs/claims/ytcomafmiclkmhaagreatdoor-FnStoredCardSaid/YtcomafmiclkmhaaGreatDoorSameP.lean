/-
  SAMEPROFILE of the program and of the reference.
-/
import Derived.Test.YtcomafmiclkmhaaGreatDoorEnts
import Derived.Test.YtcomafmiclkmhaaGreatDoorEnts2
import Derived.BigQuiet
import Derived.Deep.RegionHeld3
set_option linter.unusedVariables false
set_option linter.unusedSimpArgs false
namespace Go.Proofs.YtcomafmiclkmhaaGreatDoor
open Go.RowKit
set_option maxRecDepth 100000 in
set_option maxHeartbeats 2000000 in
theorem sameE_i {xs ys : List DEntry} {w : World} {A A' : Option Addr} {c c' : Nat} (hx : (tEntry.sl 62).R w w.heap.size [.slice A xs.length c] xs) (hy : (tEntry.sl 62).R w w.heap.size [.slice A' ys.length c'] ys) :
    Calls Tryz.prog 24 #[.slice A xs.length c, .slice A' ys.length c'] w fun e w' => e = .returned (.bool (decide (xs = ys))) ∧ Gro w w' := by
  obtain ⟨_, _, hv, h1, h2⟩ := sl_at hx
  obtain ⟨_, _, hv', k1, k2⟩ := sl_at hy
  injection hv with q1 _ q2
  injection hv' with q3 _ q4
  subst q1 q2 q3 q4
  by_cases hl : xs.length = ys.length
  · have hne : ((xs.length : Int) != (ys.length : Int)) = false := by simp [hl]
    have HL := Lib.hid hl
    have hll : xs.length ≤ ys.length := by omega
    clear hl
    go_enter Tryz.func24, Tryz.ntmps24
    go_wp2_with (fail)
    go_loopw [13] (fun i wr => ∃ k : Nat, k ≤ xs.length ∧ i = .int .i64 k ∧ Hid (Gro w wr) ∧ Hid (xs.take k = ys.take k)) (fun i _ => xs.length - (intOf i).toNat)
    case atStart => exact ⟨0, Nat.zero_le _, rfl, Gro.refl _, Lib.hid (by simp)⟩
    case round =>
      obtain ⟨k, hk, rfl, hG, HT⟩ := hrel
      obtain ⟨os, d, rfl⟩ := hG.out
      clear hG
      by_cases hlt : k < xs.length
      · have hlt2 : k < ys.length := by omega
        obtain ⟨g, off, x, rfl, hgb, hxk, hx0, hx1, bx0, bx1⟩ := atEntry hx hlt
        obtain ⟨g', off', y, rfl, hgb', hyk, hy0, hy1, by0, by1⟩ := atEntry hy hlt2
        have HX := Lib.hid hxk
        have HY := Lib.hid hyk
        have hi1 : (k : Int) < (xs.length : Int) := by omega
        have hi2 : (k : Int) < (ys.length : Int) := by omega
        clear hxk hyk hx hy
        by_cases hs : x.Stack = y.Stack
        · have hsb : (x.Stack.toList == y.Stack.toList) = true := by rw [str_eqb]; simp [hs]
          by_cases hc : x.Count = y.Count
          · have hcb : (x.Count == y.Count) = true := by simp [hc]
            have HXY := Lib.hid (show x = y from by cases x; cases y; simp only at hs hc; rw [hs, hc])
            clear hs hc
            go_wp2_with (fail)
            go_quiet (fail)
            go_wp2_with (fail)
            go_roundw
            case rel => exact ⟨k + 1, by omega, by go_num, Lib.hid (by repeat (first | with_reducible exact Gro.refl _ | with_reducible exact Gro.refl_drew _ _ _ | with_reducible exact Gro.refl_drewN _ _ _ _ | assumption | with_reducible apply Gro.more | with_reducible apply Gro.alloc | with_reducible apply Gro.drew | with_reducible apply Gro.drewN)), Lib.hid (by rw [take_snoc HX.out, take_snoc HY.out, HT.out, HXY.out])⟩
            case measure => simp [intOf]; omega
          · have hcb : (x.Count == y.Count) = false := by simp [hc]
            have HXY := Lib.hid (show x ≠ y from by rintro rfl; exact hc rfl)
            clear hs hc
            go_wp2_with (fail)
            go_quiet (fail)
            go_wp2_with (fail)
            go_ret
            refine ⟨ret_bool ?_, (by repeat (first | with_reducible exact Gro.refl _ | with_reducible exact Gro.refl_drew _ _ _ | with_reducible exact Gro.refl_drewN _ _ _ _ | assumption | with_reducible apply Gro.more | with_reducible apply Gro.alloc | with_reducible apply Gro.drew | with_reducible apply Gro.drewN))⟩
            symm
            simp only [decide_eq_false_iff_not]
            rintro rfl
            have h9 := HX.out.symm.trans HY.out
            simp at h9
            exact HXY.out h9
        · have hsb : (x.Stack.toList == y.Stack.toList) = false := by rw [str_eqb]; simp [hs]
          have HXY := Lib.hid (show x ≠ y from by rintro rfl; exact hs rfl)
          clear hs
          go_wp2_with (fail)
          go_quiet (fail)
          go_wp2_with (fail)
          go_ret
          refine ⟨ret_bool ?_, (by repeat (first | with_reducible exact Gro.refl _ | with_reducible exact Gro.refl_drew _ _ _ | with_reducible exact Gro.refl_drewN _ _ _ _ | assumption | with_reducible apply Gro.more | with_reducible apply Gro.alloc | with_reducible apply Gro.drew | with_reducible apply Gro.drewN))⟩
          symm
          simp only [decide_eq_false_iff_not]
          rintro rfl
          have h9 := HX.out.symm.trans HY.out
          simp at h9
          exact HXY.out h9
      · go_wp2
        go_ret
        refine ⟨ret_bool ?_, (by repeat (first | with_reducible exact Gro.refl _ | with_reducible exact Gro.refl_drew _ _ _ | with_reducible exact Gro.refl_drewN _ _ _ _ | assumption | with_reducible apply Gro.more | with_reducible apply Gro.alloc | with_reducible apply Gro.drew | with_reducible apply Gro.drewN))⟩
        have : k = xs.length := by omega
        subst this
        have h1 := HT.out
        rw [HL.out] at h1
        simp only [List.take_length] at h1
        rw [← HL.out] at h1
        simp at h1
        simp [h1]
  · have hne : ((xs.length : Int) != (ys.length : Int)) = true := by simp; omega
    go_enter Tryz.func24, Tryz.ntmps24
    go_wp2
    go_ret
    exact ⟨ret_bool (by symm; simp only [decide_eq_false_iff_not]; rintro rfl; exact hl rfl), Gro.refl _⟩
set_option maxRecDepth 100000 in
set_option maxHeartbeats 2000000 in
theorem sameE_s {xs ys : List DEntry} {w : World} {A A' : Option Addr} {c c' : Nat} (hx : (tEntry.sl 62).R w w.heap.size [.slice A xs.length c] xs) (hy : (tEntry.sl 62).R w w.heap.size [.slice A' ys.length c'] ys) :
    Calls Tryz.prog 26 #[.slice A xs.length c, .slice A' ys.length c'] w fun e w' => e = .returned (.bool (decide (xs = ys))) ∧ Gro w w' := by
  obtain ⟨_, _, hv, h1, h2⟩ := sl_at hx
  obtain ⟨_, _, hv', k1, k2⟩ := sl_at hy
  injection hv with q1 _ q2
  injection hv' with q3 _ q4
  subst q1 q2 q3 q4
  by_cases hl : xs.length = ys.length
  · have hne : ((xs.length : Int) != (ys.length : Int)) = false := by simp [hl]
    have HL := Lib.hid hl
    have hll : xs.length ≤ ys.length := by omega
    clear hl
    go_enter Tryz.func26, Tryz.ntmps26
    go_wp2_with (fail)
    go_loopw [5] (fun i wr => ∃ k : Nat, k ≤ xs.length ∧ i = .int .i64 k ∧ Hid (Gro w wr) ∧ Hid (xs.take k = ys.take k)) (fun i _ => xs.length - (intOf i).toNat)
    case atStart => exact ⟨0, Nat.zero_le _, rfl, Gro.refl _, Lib.hid (by simp)⟩
    case round =>
      obtain ⟨k, hk, rfl, hG, HT⟩ := hrel
      obtain ⟨os, d, rfl⟩ := hG.out
      clear hG
      by_cases hlt : k < xs.length
      · have hlt2 : k < ys.length := by omega
        obtain ⟨g, off, x, rfl, hgb, hxk, hx0, hx1, bx0, bx1⟩ := atEntry hx hlt
        obtain ⟨g', off', y, rfl, hgb', hyk, hy0, hy1, by0, by1⟩ := atEntry hy hlt2
        have HX := Lib.hid hxk
        have HY := Lib.hid hyk
        have hi1 : (k : Int) < (xs.length : Int) := by omega
        have hi2 : (k : Int) < (ys.length : Int) := by omega
        clear hxk hyk hx hy
        by_cases hs : x.Stack = y.Stack
        · have hsb : (x.Stack.toList == y.Stack.toList) = true := by rw [str_eqb]; simp [hs]
          by_cases hc : x.Count = y.Count
          · have hcb : (x.Count == y.Count) = true := by simp [hc]
            have HXY := Lib.hid (show x = y from by cases x; cases y; simp only at hs hc; rw [hs, hc])
            clear hs hc
            go_wp2_with (fail)
            go_quiet (fail)
            go_wp2_with (fail)
            go_roundw
            case rel => exact ⟨k + 1, by omega, by go_num, Lib.hid (by repeat (first | with_reducible exact Gro.refl _ | with_reducible exact Gro.refl_drew _ _ _ | with_reducible exact Gro.refl_drewN _ _ _ _ | assumption | with_reducible apply Gro.more | with_reducible apply Gro.alloc | with_reducible apply Gro.drew | with_reducible apply Gro.drewN)), Lib.hid (by rw [take_snoc HX.out, take_snoc HY.out, HT.out, HXY.out])⟩
            case measure => simp [intOf]; omega
          · have hcb : (x.Count == y.Count) = false := by simp [hc]
            have HXY := Lib.hid (show x ≠ y from by rintro rfl; exact hc rfl)
            clear hs hc
            go_wp2_with (fail)
            go_quiet (fail)
            go_wp2_with (fail)
            go_ret
            refine ⟨ret_bool ?_, (by repeat (first | with_reducible exact Gro.refl _ | with_reducible exact Gro.refl_drew _ _ _ | with_reducible exact Gro.refl_drewN _ _ _ _ | assumption | with_reducible apply Gro.more | with_reducible apply Gro.alloc | with_reducible apply Gro.drew | with_reducible apply Gro.drewN))⟩
            symm
            simp only [decide_eq_false_iff_not]
            rintro rfl
            have h9 := HX.out.symm.trans HY.out
            simp at h9
            exact HXY.out h9
        · have hsb : (x.Stack.toList == y.Stack.toList) = false := by rw [str_eqb]; simp [hs]
          have HXY := Lib.hid (show x ≠ y from by rintro rfl; exact hs rfl)
          clear hs
          go_wp2_with (fail)
          go_quiet (fail)
          go_wp2_with (fail)
          go_ret
          refine ⟨ret_bool ?_, (by repeat (first | with_reducible exact Gro.refl _ | with_reducible exact Gro.refl_drew _ _ _ | with_reducible exact Gro.refl_drewN _ _ _ _ | assumption | with_reducible apply Gro.more | with_reducible apply Gro.alloc | with_reducible apply Gro.drew | with_reducible apply Gro.drewN))⟩
          symm
          simp only [decide_eq_false_iff_not]
          rintro rfl
          have h9 := HX.out.symm.trans HY.out
          simp at h9
          exact HXY.out h9
      · go_wp2
        go_ret
        refine ⟨ret_bool ?_, (by repeat (first | with_reducible exact Gro.refl _ | with_reducible exact Gro.refl_drew _ _ _ | with_reducible exact Gro.refl_drewN _ _ _ _ | assumption | with_reducible apply Gro.more | with_reducible apply Gro.alloc | with_reducible apply Gro.drew | with_reducible apply Gro.drewN))⟩
        have : k = xs.length := by omega
        subst this
        have h1 := HT.out
        rw [HL.out] at h1
        simp only [List.take_length] at h1
        rw [← HL.out] at h1
        simp at h1
        simp [h1]
  · have hne : ((xs.length : Int) != (ys.length : Int)) = true := by simp; omega
    go_enter Tryz.func26, Tryz.ntmps26
    go_wp2
    go_ret
    exact ⟨ret_bool (by symm; simp only [decide_eq_false_iff_not]; rintro rfl; exact hl rfl), Gro.refl _⟩
def sameP (p q : DProfile) : Bool := profileOk p && (profileOk q && decide (entriesOf p = entriesOf q))
set_option maxRecDepth 100000 in
set_option maxHeartbeats 4000000 in
theorem samep_i {p q : DProfile} {w : World} {A0 A1 A2 A3 : Option Addr} {c0 c1 c2 c3 : Nat} (hx : (tNode.sl 48).R w w.heap.size [.slice A0 p.Stacks.Nodes.length c0] p.Stacks.Nodes) (hy : (intT.sl 3).R w w.heap.size [.slice A1 p.Counts.length c1] p.Counts) (hn : p.Stacks.Nodes.length ≤ 1099511627776)
    (hz : (tNode.sl 48).R w w.heap.size [.slice A2 q.Stacks.Nodes.length c2] q.Stacks.Nodes) (hu : (intT.sl 3).R w w.heap.size [.slice A3 q.Counts.length c3] q.Counts) (hm : q.Stacks.Nodes.length ≤ 1099511627776) :
    Calls Tryz.prog 10 #[.agg #[.slice A0 p.Stacks.Nodes.length c0, .slice A1 p.Counts.length c1], .agg #[.slice A2 q.Stacks.Nodes.length c2, .slice A3 q.Counts.length c3]] w fun e w' => e = .returned (.bool (sameP p q)) ∧ Gro w w' := by
  cases hp : profileOk p
  · have HR := Lib.hid (show sameP p q = false from by simp [sameP, hp])
    have HP := Lib.hid hp
    clear hp
    go_enter Tryz.func10, Tryz.ntmps10
    go_wp2_with (fail)
    have h0 : ((w.alloc (.cells #[.slice A0 p.Stacks.Nodes.length c0, .slice A1 p.Counts.length c1] 29)).alloc (.cells #[.slice A2 q.Stacks.Nodes.length c2, .slice A3 q.Counts.length c3] 29)).cell? ⟨w.heap.size, 0, none⟩ = some (.slice A0 p.Stacks.Nodes.length c0) := by simp [go_sem]
    have h1 : ((w.alloc (.cells #[.slice A0 p.Stacks.Nodes.length c0, .slice A1 p.Counts.length c1] 29)).alloc (.cells #[.slice A2 q.Stacks.Nodes.length c2, .slice A3 q.Counts.length c3] 29)).cell? ⟨w.heap.size, 1, none⟩ = some (.slice A1 p.Counts.length c1) := by simp [go_sem]
    have h2 : ((w.alloc (.cells #[.slice A0 p.Stacks.Nodes.length c0, .slice A1 p.Counts.length c1] 29)).alloc (.cells #[.slice A2 q.Stacks.Nodes.length c2, .slice A3 q.Counts.length c3] 29)).cell? ⟨w.heap.size + 1, 0, none⟩ = some (.slice A2 q.Stacks.Nodes.length c2) := by simp [go_sem]
    have h3 : ((w.alloc (.cells #[.slice A0 p.Stacks.Nodes.length c0, .slice A1 p.Counts.length c1] 29)).alloc (.cells #[.slice A2 q.Stacks.Nodes.length c2, .slice A3 q.Counts.length c3] 29)).cell? ⟨w.heap.size + 1, 1, none⟩ = some (.slice A3 q.Counts.length c3) := by simp [go_sem]
    have hw1 : w.heap.size < ((w.alloc (.cells #[.slice A0 p.Stacks.Nodes.length c0, .slice A1 p.Counts.length c1] 29)).alloc (.cells #[.slice A2 q.Stacks.Nodes.length c2, .slice A3 q.Counts.length c3] 29)).heap.size := by simp; omega
    have hw2 : w.heap.size + 1 < ((w.alloc (.cells #[.slice A0 p.Stacks.Nodes.length c0, .slice A1 p.Counts.length c1] 29)).alloc (.cells #[.slice A2 q.Stacks.Nodes.length c2, .slice A3 q.Counts.length c3] 29)).heap.size := by simp
    have HX := Lib.hid (show (tNode.sl 48).R ((w.alloc (.cells #[.slice A0 p.Stacks.Nodes.length c0, .slice A1 p.Counts.length c1] 29)).alloc (.cells #[.slice A2 q.Stacks.Nodes.length c2, .slice A3 q.Counts.length c3] 29)) ((w.alloc (.cells #[.slice A0 p.Stacks.Nodes.length c0, .slice A1 p.Counts.length c1] 29)).alloc (.cells #[.slice A2 q.Stacks.Nodes.length c2, .slice A3 q.Counts.length c3] 29)).heap.size [.slice A0 p.Stacks.Nodes.length c0] p.Stacks.Nodes from Ty.up _ hx (by repeat (first | with_reducible exact Gro.refl _ | with_reducible exact Gro.refl_drew _ _ _ | with_reducible exact Gro.refl_drewN _ _ _ _ | assumption | with_reducible apply Gro.more | with_reducible apply Gro.alloc | with_reducible apply Gro.drew | with_reducible apply Gro.drewN)))
    have HY := Lib.hid (show (intT.sl 3).R ((w.alloc (.cells #[.slice A0 p.Stacks.Nodes.length c0, .slice A1 p.Counts.length c1] 29)).alloc (.cells #[.slice A2 q.Stacks.Nodes.length c2, .slice A3 q.Counts.length c3] 29)) ((w.alloc (.cells #[.slice A0 p.Stacks.Nodes.length c0, .slice A1 p.Counts.length c1] 29)).alloc (.cells #[.slice A2 q.Stacks.Nodes.length c2, .slice A3 q.Counts.length c3] 29)).heap.size [.slice A1 p.Counts.length c1] p.Counts from Ty.up _ hy (by repeat (first | with_reducible exact Gro.refl _ | with_reducible exact Gro.refl_drew _ _ _ | with_reducible exact Gro.refl_drewN _ _ _ _ | assumption | with_reducible apply Gro.more | with_reducible apply Gro.alloc | with_reducible apply Gro.drew | with_reducible apply Gro.drewN)))
    have HZ := Lib.hid (show (tNode.sl 48).R ((w.alloc (.cells #[.slice A0 p.Stacks.Nodes.length c0, .slice A1 p.Counts.length c1] 29)).alloc (.cells #[.slice A2 q.Stacks.Nodes.length c2, .slice A3 q.Counts.length c3] 29)) ((w.alloc (.cells #[.slice A0 p.Stacks.Nodes.length c0, .slice A1 p.Counts.length c1] 29)).alloc (.cells #[.slice A2 q.Stacks.Nodes.length c2, .slice A3 q.Counts.length c3] 29)).heap.size [.slice A2 q.Stacks.Nodes.length c2] q.Stacks.Nodes from Ty.up _ hz (by repeat (first | with_reducible exact Gro.refl _ | with_reducible exact Gro.refl_drew _ _ _ | with_reducible exact Gro.refl_drewN _ _ _ _ | assumption | with_reducible apply Gro.more | with_reducible apply Gro.alloc | with_reducible apply Gro.drew | with_reducible apply Gro.drewN)))
    have HU := Lib.hid (show (intT.sl 3).R ((w.alloc (.cells #[.slice A0 p.Stacks.Nodes.length c0, .slice A1 p.Counts.length c1] 29)).alloc (.cells #[.slice A2 q.Stacks.Nodes.length c2, .slice A3 q.Counts.length c3] 29)) ((w.alloc (.cells #[.slice A0 p.Stacks.Nodes.length c0, .slice A1 p.Counts.length c1] 29)).alloc (.cells #[.slice A2 q.Stacks.Nodes.length c2, .slice A3 q.Counts.length c3] 29)).heap.size [.slice A3 q.Counts.length c3] q.Counts from Ty.up _ hu (by repeat (first | with_reducible exact Gro.refl _ | with_reducible exact Gro.refl_drew _ _ _ | with_reducible exact Gro.refl_drewN _ _ _ _ | assumption | with_reducible apply Gro.more | with_reducible apply Gro.alloc | with_reducible apply Gro.drew | with_reducible apply Gro.drewN)))
    have HG := Lib.hid (show Gro w ((w.alloc (.cells #[.slice A0 p.Stacks.Nodes.length c0, .slice A1 p.Counts.length c1] 29)).alloc (.cells #[.slice A2 q.Stacks.Nodes.length c2, .slice A3 q.Counts.length c3] 29)) from (by repeat (first | with_reducible exact Gro.refl _ | with_reducible exact Gro.refl_drew _ _ _ | with_reducible exact Gro.refl_drewN _ _ _ _ | assumption | with_reducible apply Gro.more | with_reducible apply Gro.alloc | with_reducible apply Gro.drew | with_reducible apply Gro.drewN)))
    generalize (w.alloc (.cells #[.slice A0 p.Stacks.Nodes.length c0, .slice A1 p.Counts.length c1] 29)).alloc (.cells #[.slice A2 q.Stacks.Nodes.length c2, .slice A3 q.Counts.length c3] 29) = W at h0 h1 h2 h3 hw1 hw2 HX HY HZ HU HG ⊢
    clear hx hy hz hu
    go_region_with (first
      | (go_at_call 14; (with_reducible refine (profileOk_i (p := p) (Ty.up _ HX.out (by repeat (first | with_reducible exact Gro.refl _ | with_reducible exact Gro.refl_drew _ _ _ | with_reducible exact Gro.refl_drewN _ _ _ _ | assumption | with_reducible apply Gro.more | with_reducible apply Gro.alloc | with_reducible apply Gro.drew | with_reducible apply Gro.drewN))) (Ty.up _ HY.out (by repeat (first | with_reducible exact Gro.refl _ | with_reducible exact Gro.refl_drew _ _ _ | with_reducible exact Gro.refl_drewN _ _ _ _ | assumption | with_reducible apply Gro.more | with_reducible apply Gro.alloc | with_reducible apply Gro.drew | with_reducible apply Gro.drewN)))).mono ?_); rw [HP.out]; rintro e w1 ⟨rfl, os1, d1, rfl⟩))
    all_goals go_wp2
    all_goals go_ret
    all_goals exact ⟨ret_bool (by rw [HR.out]), HG.out.trans (by repeat (first | with_reducible exact Gro.refl _ | with_reducible exact Gro.refl_drew _ _ _ | with_reducible exact Gro.refl_drewN _ _ _ _ | assumption | with_reducible apply Gro.more | with_reducible apply Gro.alloc | with_reducible apply Gro.drew | with_reducible apply Gro.drewN))⟩
  cases hq : profileOk q
  · have HR := Lib.hid (show sameP p q = false from by simp [sameP, hq])
    have HP := Lib.hid hp
    have HQ := Lib.hid hq
    clear hp hq
    go_enter Tryz.func10, Tryz.ntmps10
    go_wp2_with (fail)
    have h0 : ((w.alloc (.cells #[.slice A0 p.Stacks.Nodes.length c0, .slice A1 p.Counts.length c1] 29)).alloc (.cells #[.slice A2 q.Stacks.Nodes.length c2, .slice A3 q.Counts.length c3] 29)).cell? ⟨w.heap.size, 0, none⟩ = some (.slice A0 p.Stacks.Nodes.length c0) := by simp [go_sem]
    have h1 : ((w.alloc (.cells #[.slice A0 p.Stacks.Nodes.length c0, .slice A1 p.Counts.length c1] 29)).alloc (.cells #[.slice A2 q.Stacks.Nodes.length c2, .slice A3 q.Counts.length c3] 29)).cell? ⟨w.heap.size, 1, none⟩ = some (.slice A1 p.Counts.length c1) := by simp [go_sem]
    have h2 : ((w.alloc (.cells #[.slice A0 p.Stacks.Nodes.length c0, .slice A1 p.Counts.length c1] 29)).alloc (.cells #[.slice A2 q.Stacks.Nodes.length c2, .slice A3 q.Counts.length c3] 29)).cell? ⟨w.heap.size + 1, 0, none⟩ = some (.slice A2 q.Stacks.Nodes.length c2) := by simp [go_sem]
    have h3 : ((w.alloc (.cells #[.slice A0 p.Stacks.Nodes.length c0, .slice A1 p.Counts.length c1] 29)).alloc (.cells #[.slice A2 q.Stacks.Nodes.length c2, .slice A3 q.Counts.length c3] 29)).cell? ⟨w.heap.size + 1, 1, none⟩ = some (.slice A3 q.Counts.length c3) := by simp [go_sem]
    have hw1 : w.heap.size < ((w.alloc (.cells #[.slice A0 p.Stacks.Nodes.length c0, .slice A1 p.Counts.length c1] 29)).alloc (.cells #[.slice A2 q.Stacks.Nodes.length c2, .slice A3 q.Counts.length c3] 29)).heap.size := by simp; omega
    have hw2 : w.heap.size + 1 < ((w.alloc (.cells #[.slice A0 p.Stacks.Nodes.length c0, .slice A1 p.Counts.length c1] 29)).alloc (.cells #[.slice A2 q.Stacks.Nodes.length c2, .slice A3 q.Counts.length c3] 29)).heap.size := by simp
    have HX := Lib.hid (show (tNode.sl 48).R ((w.alloc (.cells #[.slice A0 p.Stacks.Nodes.length c0, .slice A1 p.Counts.length c1] 29)).alloc (.cells #[.slice A2 q.Stacks.Nodes.length c2, .slice A3 q.Counts.length c3] 29)) ((w.alloc (.cells #[.slice A0 p.Stacks.Nodes.length c0, .slice A1 p.Counts.length c1] 29)).alloc (.cells #[.slice A2 q.Stacks.Nodes.length c2, .slice A3 q.Counts.length c3] 29)).heap.size [.slice A0 p.Stacks.Nodes.length c0] p.Stacks.Nodes from Ty.up _ hx (by repeat (first | with_reducible exact Gro.refl _ | with_reducible exact Gro.refl_drew _ _ _ | with_reducible exact Gro.refl_drewN _ _ _ _ | assumption | with_reducible apply Gro.more | with_reducible apply Gro.alloc | with_reducible apply Gro.drew | with_reducible apply Gro.drewN)))
    have HY := Lib.hid (show (intT.sl 3).R ((w.alloc (.cells #[.slice A0 p.Stacks.Nodes.length c0, .slice A1 p.Counts.length c1] 29)).alloc (.cells #[.slice A2 q.Stacks.Nodes.length c2, .slice A3 q.Counts.length c3] 29)) ((w.alloc (.cells #[.slice A0 p.Stacks.Nodes.length c0, .slice A1 p.Counts.length c1] 29)).alloc (.cells #[.slice A2 q.Stacks.Nodes.length c2, .slice A3 q.Counts.length c3] 29)).heap.size [.slice A1 p.Counts.length c1] p.Counts from Ty.up _ hy (by repeat (first | with_reducible exact Gro.refl _ | with_reducible exact Gro.refl_drew _ _ _ | with_reducible exact Gro.refl_drewN _ _ _ _ | assumption | with_reducible apply Gro.more | with_reducible apply Gro.alloc | with_reducible apply Gro.drew | with_reducible apply Gro.drewN)))
    have HZ := Lib.hid (show (tNode.sl 48).R ((w.alloc (.cells #[.slice A0 p.Stacks.Nodes.length c0, .slice A1 p.Counts.length c1] 29)).alloc (.cells #[.slice A2 q.Stacks.Nodes.length c2, .slice A3 q.Counts.length c3] 29)) ((w.alloc (.cells #[.slice A0 p.Stacks.Nodes.length c0, .slice A1 p.Counts.length c1] 29)).alloc (.cells #[.slice A2 q.Stacks.Nodes.length c2, .slice A3 q.Counts.length c3] 29)).heap.size [.slice A2 q.Stacks.Nodes.length c2] q.Stacks.Nodes from Ty.up _ hz (by repeat (first | with_reducible exact Gro.refl _ | with_reducible exact Gro.refl_drew _ _ _ | with_reducible exact Gro.refl_drewN _ _ _ _ | assumption | with_reducible apply Gro.more | with_reducible apply Gro.alloc | with_reducible apply Gro.drew | with_reducible apply Gro.drewN)))
    have HU := Lib.hid (show (intT.sl 3).R ((w.alloc (.cells #[.slice A0 p.Stacks.Nodes.length c0, .slice A1 p.Counts.length c1] 29)).alloc (.cells #[.slice A2 q.Stacks.Nodes.length c2, .slice A3 q.Counts.length c3] 29)) ((w.alloc (.cells #[.slice A0 p.Stacks.Nodes.length c0, .slice A1 p.Counts.length c1] 29)).alloc (.cells #[.slice A2 q.Stacks.Nodes.length c2, .slice A3 q.Counts.length c3] 29)).heap.size [.slice A3 q.Counts.length c3] q.Counts from Ty.up _ hu (by repeat (first | with_reducible exact Gro.refl _ | with_reducible exact Gro.refl_drew _ _ _ | with_reducible exact Gro.refl_drewN _ _ _ _ | assumption | with_reducible apply Gro.more | with_reducible apply Gro.alloc | with_reducible apply Gro.drew | with_reducible apply Gro.drewN)))
    have HG := Lib.hid (show Gro w ((w.alloc (.cells #[.slice A0 p.Stacks.Nodes.length c0, .slice A1 p.Counts.length c1] 29)).alloc (.cells #[.slice A2 q.Stacks.Nodes.length c2, .slice A3 q.Counts.length c3] 29)) from (by repeat (first | with_reducible exact Gro.refl _ | with_reducible exact Gro.refl_drew _ _ _ | with_reducible exact Gro.refl_drewN _ _ _ _ | assumption | with_reducible apply Gro.more | with_reducible apply Gro.alloc | with_reducible apply Gro.drew | with_reducible apply Gro.drewN)))
    generalize (w.alloc (.cells #[.slice A0 p.Stacks.Nodes.length c0, .slice A1 p.Counts.length c1] 29)).alloc (.cells #[.slice A2 q.Stacks.Nodes.length c2, .slice A3 q.Counts.length c3] 29) = W at h0 h1 h2 h3 hw1 hw2 HX HY HZ HU HG ⊢
    clear hx hy hz hu
    go_region_with (first
      | (go_at_call 14; (with_reducible refine (profileOk_i (p := p) (Ty.up _ HX.out (by repeat (first | with_reducible exact Gro.refl _ | with_reducible exact Gro.refl_drew _ _ _ | with_reducible exact Gro.refl_drewN _ _ _ _ | assumption | with_reducible apply Gro.more | with_reducible apply Gro.alloc | with_reducible apply Gro.drew | with_reducible apply Gro.drewN))) (Ty.up _ HY.out (by repeat (first | with_reducible exact Gro.refl _ | with_reducible exact Gro.refl_drew _ _ _ | with_reducible exact Gro.refl_drewN _ _ _ _ | assumption | with_reducible apply Gro.more | with_reducible apply Gro.alloc | with_reducible apply Gro.drew | with_reducible apply Gro.drewN)))).mono ?_); rw [HP.out]; rintro e w1 ⟨rfl, os1, d1, rfl⟩)
      | (go_at_call 14; (with_reducible refine (profileOk_i (p := q) (Ty.up _ HZ.out (by repeat (first | with_reducible exact Gro.refl _ | with_reducible exact Gro.refl_drew _ _ _ | with_reducible exact Gro.refl_drewN _ _ _ _ | assumption | with_reducible apply Gro.more | with_reducible apply Gro.alloc | with_reducible apply Gro.drew | with_reducible apply Gro.drewN))) (Ty.up _ HU.out (by repeat (first | with_reducible exact Gro.refl _ | with_reducible exact Gro.refl_drew _ _ _ | with_reducible exact Gro.refl_drewN _ _ _ _ | assumption | with_reducible apply Gro.more | with_reducible apply Gro.alloc | with_reducible apply Gro.drew | with_reducible apply Gro.drewN)))).mono ?_); rw [HQ.out]; rintro e w2 ⟨rfl, os2, d2, rfl⟩))
    all_goals go_wp2
    all_goals go_ret
    all_goals exact ⟨ret_bool (by rw [HR.out]), HG.out.trans (by repeat (first | with_reducible exact Gro.refl _ | with_reducible exact Gro.refl_drew _ _ _ | with_reducible exact Gro.refl_drewN _ _ _ _ | assumption | with_reducible apply Gro.more | with_reducible apply Gro.alloc | with_reducible apply Gro.drew | with_reducible apply Gro.drewN))⟩
  · have HR := Lib.hid (show sameP p q = decide (entriesOf p = entriesOf q) from by simp [sameP, hp, hq])
    have HP := Lib.hid hp
    have HQ := Lib.hid hq
    clear hp hq
    go_enter Tryz.func10, Tryz.ntmps10
    go_wp2_with (fail)
    have h0 : ((w.alloc (.cells #[.slice A0 p.Stacks.Nodes.length c0, .slice A1 p.Counts.length c1] 29)).alloc (.cells #[.slice A2 q.Stacks.Nodes.length c2, .slice A3 q.Counts.length c3] 29)).cell? ⟨w.heap.size, 0, none⟩ = some (.slice A0 p.Stacks.Nodes.length c0) := by simp [go_sem]
    have h1 : ((w.alloc (.cells #[.slice A0 p.Stacks.Nodes.length c0, .slice A1 p.Counts.length c1] 29)).alloc (.cells #[.slice A2 q.Stacks.Nodes.length c2, .slice A3 q.Counts.length c3] 29)).cell? ⟨w.heap.size, 1, none⟩ = some (.slice A1 p.Counts.length c1) := by simp [go_sem]
    have h2 : ((w.alloc (.cells #[.slice A0 p.Stacks.Nodes.length c0, .slice A1 p.Counts.length c1] 29)).alloc (.cells #[.slice A2 q.Stacks.Nodes.length c2, .slice A3 q.Counts.length c3] 29)).cell? ⟨w.heap.size + 1, 0, none⟩ = some (.slice A2 q.Stacks.Nodes.length c2) := by simp [go_sem]
    have h3 : ((w.alloc (.cells #[.slice A0 p.Stacks.Nodes.length c0, .slice A1 p.Counts.length c1] 29)).alloc (.cells #[.slice A2 q.Stacks.Nodes.length c2, .slice A3 q.Counts.length c3] 29)).cell? ⟨w.heap.size + 1, 1, none⟩ = some (.slice A3 q.Counts.length c3) := by simp [go_sem]
    have hw1 : w.heap.size < ((w.alloc (.cells #[.slice A0 p.Stacks.Nodes.length c0, .slice A1 p.Counts.length c1] 29)).alloc (.cells #[.slice A2 q.Stacks.Nodes.length c2, .slice A3 q.Counts.length c3] 29)).heap.size := by simp; omega
    have hw2 : w.heap.size + 1 < ((w.alloc (.cells #[.slice A0 p.Stacks.Nodes.length c0, .slice A1 p.Counts.length c1] 29)).alloc (.cells #[.slice A2 q.Stacks.Nodes.length c2, .slice A3 q.Counts.length c3] 29)).heap.size := by simp
    have HX := Lib.hid (show (tNode.sl 48).R ((w.alloc (.cells #[.slice A0 p.Stacks.Nodes.length c0, .slice A1 p.Counts.length c1] 29)).alloc (.cells #[.slice A2 q.Stacks.Nodes.length c2, .slice A3 q.Counts.length c3] 29)) ((w.alloc (.cells #[.slice A0 p.Stacks.Nodes.length c0, .slice A1 p.Counts.length c1] 29)).alloc (.cells #[.slice A2 q.Stacks.Nodes.length c2, .slice A3 q.Counts.length c3] 29)).heap.size [.slice A0 p.Stacks.Nodes.length c0] p.Stacks.Nodes from Ty.up _ hx (by repeat (first | with_reducible exact Gro.refl _ | with_reducible exact Gro.refl_drew _ _ _ | with_reducible exact Gro.refl_drewN _ _ _ _ | assumption | with_reducible apply Gro.more | with_reducible apply Gro.alloc | with_reducible apply Gro.drew | with_reducible apply Gro.drewN)))
    have HY := Lib.hid (show (intT.sl 3).R ((w.alloc (.cells #[.slice A0 p.Stacks.Nodes.length c0, .slice A1 p.Counts.length c1] 29)).alloc (.cells #[.slice A2 q.Stacks.Nodes.length c2, .slice A3 q.Counts.length c3] 29)) ((w.alloc (.cells #[.slice A0 p.Stacks.Nodes.length c0, .slice A1 p.Counts.length c1] 29)).alloc (.cells #[.slice A2 q.Stacks.Nodes.length c2, .slice A3 q.Counts.length c3] 29)).heap.size [.slice A1 p.Counts.length c1] p.Counts from Ty.up _ hy (by repeat (first | with_reducible exact Gro.refl _ | with_reducible exact Gro.refl_drew _ _ _ | with_reducible exact Gro.refl_drewN _ _ _ _ | assumption | with_reducible apply Gro.more | with_reducible apply Gro.alloc | with_reducible apply Gro.drew | with_reducible apply Gro.drewN)))
    have HZ := Lib.hid (show (tNode.sl 48).R ((w.alloc (.cells #[.slice A0 p.Stacks.Nodes.length c0, .slice A1 p.Counts.length c1] 29)).alloc (.cells #[.slice A2 q.Stacks.Nodes.length c2, .slice A3 q.Counts.length c3] 29)) ((w.alloc (.cells #[.slice A0 p.Stacks.Nodes.length c0, .slice A1 p.Counts.length c1] 29)).alloc (.cells #[.slice A2 q.Stacks.Nodes.length c2, .slice A3 q.Counts.length c3] 29)).heap.size [.slice A2 q.Stacks.Nodes.length c2] q.Stacks.Nodes from Ty.up _ hz (by repeat (first | with_reducible exact Gro.refl _ | with_reducible exact Gro.refl_drew _ _ _ | with_reducible exact Gro.refl_drewN _ _ _ _ | assumption | with_reducible apply Gro.more | with_reducible apply Gro.alloc | with_reducible apply Gro.drew | with_reducible apply Gro.drewN)))
    have HU := Lib.hid (show (intT.sl 3).R ((w.alloc (.cells #[.slice A0 p.Stacks.Nodes.length c0, .slice A1 p.Counts.length c1] 29)).alloc (.cells #[.slice A2 q.Stacks.Nodes.length c2, .slice A3 q.Counts.length c3] 29)) ((w.alloc (.cells #[.slice A0 p.Stacks.Nodes.length c0, .slice A1 p.Counts.length c1] 29)).alloc (.cells #[.slice A2 q.Stacks.Nodes.length c2, .slice A3 q.Counts.length c3] 29)).heap.size [.slice A3 q.Counts.length c3] q.Counts from Ty.up _ hu (by repeat (first | with_reducible exact Gro.refl _ | with_reducible exact Gro.refl_drew _ _ _ | with_reducible exact Gro.refl_drewN _ _ _ _ | assumption | with_reducible apply Gro.more | with_reducible apply Gro.alloc | with_reducible apply Gro.drew | with_reducible apply Gro.drewN)))
    have HG := Lib.hid (show Gro w ((w.alloc (.cells #[.slice A0 p.Stacks.Nodes.length c0, .slice A1 p.Counts.length c1] 29)).alloc (.cells #[.slice A2 q.Stacks.Nodes.length c2, .slice A3 q.Counts.length c3] 29)) from (by repeat (first | with_reducible exact Gro.refl _ | with_reducible exact Gro.refl_drew _ _ _ | with_reducible exact Gro.refl_drewN _ _ _ _ | assumption | with_reducible apply Gro.more | with_reducible apply Gro.alloc | with_reducible apply Gro.drew | with_reducible apply Gro.drewN)))
    generalize (w.alloc (.cells #[.slice A0 p.Stacks.Nodes.length c0, .slice A1 p.Counts.length c1] 29)).alloc (.cells #[.slice A2 q.Stacks.Nodes.length c2, .slice A3 q.Counts.length c3] 29) = W at h0 h1 h2 h3 hw1 hw2 HX HY HZ HU HG ⊢
    clear hx hy hz hu
    go_region_held3 (fun w' => w'.cell? ⟨w.heap.size, 0, none⟩ = some (.slice A0 p.Stacks.Nodes.length c0) ∧ w'.cell? ⟨w.heap.size, 1, none⟩ = some (.slice A1 p.Counts.length c1) ∧ w'.cell? ⟨w.heap.size + 1, 0, none⟩ = some (.slice A2 q.Stacks.Nodes.length c2) ∧ w'.cell? ⟨w.heap.size + 1, 1, none⟩ = some (.slice A3 q.Counts.length c3)) ((repeat' apply And.intro) <;> (first | ((repeat (first | assumption | with_reducible refine gro_keeps ?_ _ _ | with_reducible refine alloc_keeps ?_ _ | with_reducible refine drew_keeps ?_)); done) | (simp [go_sem]; done))) (first
      | (go_at_call 14; (with_reducible refine (profileOk_i (p := p) (Ty.up _ HX.out (by repeat (first | with_reducible exact Gro.refl _ | with_reducible exact Gro.refl_drew _ _ _ | with_reducible exact Gro.refl_drewN _ _ _ _ | assumption | with_reducible apply Gro.more | with_reducible apply Gro.alloc | with_reducible apply Gro.drew | with_reducible apply Gro.drewN))) (Ty.up _ HY.out (by repeat (first | with_reducible exact Gro.refl _ | with_reducible exact Gro.refl_drew _ _ _ | with_reducible exact Gro.refl_drewN _ _ _ _ | assumption | with_reducible apply Gro.more | with_reducible apply Gro.alloc | with_reducible apply Gro.drew | with_reducible apply Gro.drewN)))).mono ?_); rw [HP.out]; rintro e w1 ⟨rfl, os1, d1, rfl⟩)
      | (go_at_call 14; (with_reducible refine (profileOk_i (p := q) (Ty.up _ HZ.out (by repeat (first | with_reducible exact Gro.refl _ | with_reducible exact Gro.refl_drew _ _ _ | with_reducible exact Gro.refl_drewN _ _ _ _ | assumption | with_reducible apply Gro.more | with_reducible apply Gro.alloc | with_reducible apply Gro.drew | with_reducible apply Gro.drewN))) (Ty.up _ HU.out (by repeat (first | with_reducible exact Gro.refl _ | with_reducible exact Gro.refl_drew _ _ _ | with_reducible exact Gro.refl_drewN _ _ _ _ | assumption | with_reducible apply Gro.more | with_reducible apply Gro.alloc | with_reducible apply Gro.drew | with_reducible apply Gro.drewN)))).mono ?_); rw [HQ.out]; rintro e w2 ⟨rfl, os2, d2, rfl⟩)
      | (go_at_call 21; (with_reducible refine (entriesOf_i (p := p) (Ty.up _ HX.out (by repeat (first | with_reducible exact Gro.refl _ | with_reducible exact Gro.refl_drew _ _ _ | with_reducible exact Gro.refl_drewN _ _ _ _ | assumption | with_reducible apply Gro.more | with_reducible apply Gro.alloc | with_reducible apply Gro.drew | with_reducible apply Gro.drewN))) (Ty.up _ HY.out (by repeat (first | with_reducible exact Gro.refl _ | with_reducible exact Gro.refl_drew _ _ _ | with_reducible exact Gro.refl_drewN _ _ _ _ | assumption | with_reducible apply Gro.more | with_reducible apply Gro.alloc | with_reducible apply Gro.drew | with_reducible apply Gro.drewN))) (by omega)).mono ?_); rintro e w3 ⟨B3, b3, rfl, hF3, os3, d3, rfl⟩)
      | (go_at_call 21; (with_reducible refine (entriesOf_i (p := q) (Ty.up _ HZ.out (by repeat (first | with_reducible exact Gro.refl _ | with_reducible exact Gro.refl_drew _ _ _ | with_reducible exact Gro.refl_drewN _ _ _ _ | assumption | with_reducible apply Gro.more | with_reducible apply Gro.alloc | with_reducible apply Gro.drew | with_reducible apply Gro.drewN))) (Ty.up _ HU.out (by repeat (first | with_reducible exact Gro.refl _ | with_reducible exact Gro.refl_drew _ _ _ | with_reducible exact Gro.refl_drewN _ _ _ _ | assumption | with_reducible apply Gro.more | with_reducible apply Gro.alloc | with_reducible apply Gro.drew | with_reducible apply Gro.drewN))) (by omega)).mono ?_); rintro e w4 ⟨B4, b4, rfl, hF4, os4, d4, rfl⟩)
      | (go_at_call 24; (with_reducible refine (sameE_i (xs := entriesOf p) (ys := entriesOf q) (Ty.up _ hF3.read (by repeat (first | with_reducible exact Gro.refl _ | with_reducible exact Gro.refl_drew _ _ _ | with_reducible exact Gro.refl_drewN _ _ _ _ | assumption | with_reducible apply Gro.more | with_reducible apply Gro.alloc | with_reducible apply Gro.drew | with_reducible apply Gro.drewN))) (Ty.up _ hF4.read (by repeat (first | with_reducible exact Gro.refl _ | with_reducible exact Gro.refl_drew _ _ _ | with_reducible exact Gro.refl_drewN _ _ _ _ | assumption | with_reducible apply Gro.more | with_reducible apply Gro.alloc | with_reducible apply Gro.drew | with_reducible apply Gro.drewN)))).mono ?_); rintro e w5 ⟨rfl, os5, d5, rfl⟩))
    all_goals go_wp2
    all_goals go_ret
    all_goals exact ⟨ret_bool (by rw [HR.out]), HG.out.trans (by repeat (first | with_reducible exact Gro.refl _ | with_reducible exact Gro.refl_drew _ _ _ | with_reducible exact Gro.refl_drewN _ _ _ _ | assumption | with_reducible apply Gro.more | with_reducible apply Gro.alloc | with_reducible apply Gro.drew | with_reducible apply Gro.drewN))⟩
set_option maxRecDepth 100000 in
set_option maxHeartbeats 4000000 in
theorem samep_s {p q : DProfile} {w : World} {A0 A1 A2 A3 : Option Addr} {c0 c1 c2 c3 : Nat} (hx : (tNode.sl 48).R w w.heap.size [.slice A0 p.Stacks.Nodes.length c0] p.Stacks.Nodes) (hy : (intT.sl 3).R w w.heap.size [.slice A1 p.Counts.length c1] p.Counts) (hn : p.Stacks.Nodes.length ≤ 1099511627776)
    (hz : (tNode.sl 48).R w w.heap.size [.slice A2 q.Stacks.Nodes.length c2] q.Stacks.Nodes) (hu : (intT.sl 3).R w w.heap.size [.slice A3 q.Counts.length c3] q.Counts) (hm : q.Stacks.Nodes.length ≤ 1099511627776) :
    Calls Tryz.prog 11 #[.agg #[.slice A0 p.Stacks.Nodes.length c0, .slice A1 p.Counts.length c1], .agg #[.slice A2 q.Stacks.Nodes.length c2, .slice A3 q.Counts.length c3]] w fun e w' => e = .returned (.bool (sameP p q)) ∧ Gro w w' := by
  cases hp : profileOk p
  · have HR := Lib.hid (show sameP p q = false from by simp [sameP, hp])
    have HP := Lib.hid hp
    clear hp
    go_enter Tryz.func11, Tryz.ntmps11
    go_wp2_with (fail)
    have h0 : ((w.alloc (.cells #[.slice A0 p.Stacks.Nodes.length c0, .slice A1 p.Counts.length c1] 29)).alloc (.cells #[.slice A2 q.Stacks.Nodes.length c2, .slice A3 q.Counts.length c3] 29)).cell? ⟨w.heap.size, 0, none⟩ = some (.slice A0 p.Stacks.Nodes.length c0) := by simp [go_sem]
    have h1 : ((w.alloc (.cells #[.slice A0 p.Stacks.Nodes.length c0, .slice A1 p.Counts.length c1] 29)).alloc (.cells #[.slice A2 q.Stacks.Nodes.length c2, .slice A3 q.Counts.length c3] 29)).cell? ⟨w.heap.size, 1, none⟩ = some (.slice A1 p.Counts.length c1) := by simp [go_sem]
    have h2 : ((w.alloc (.cells #[.slice A0 p.Stacks.Nodes.length c0, .slice A1 p.Counts.length c1] 29)).alloc (.cells #[.slice A2 q.Stacks.Nodes.length c2, .slice A3 q.Counts.length c3] 29)).cell? ⟨w.heap.size + 1, 0, none⟩ = some (.slice A2 q.Stacks.Nodes.length c2) := by simp [go_sem]
    have h3 : ((w.alloc (.cells #[.slice A0 p.Stacks.Nodes.length c0, .slice A1 p.Counts.length c1] 29)).alloc (.cells #[.slice A2 q.Stacks.Nodes.length c2, .slice A3 q.Counts.length c3] 29)).cell? ⟨w.heap.size + 1, 1, none⟩ = some (.slice A3 q.Counts.length c3) := by simp [go_sem]
    have hw1 : w.heap.size < ((w.alloc (.cells #[.slice A0 p.Stacks.Nodes.length c0, .slice A1 p.Counts.length c1] 29)).alloc (.cells #[.slice A2 q.Stacks.Nodes.length c2, .slice A3 q.Counts.length c3] 29)).heap.size := by simp; omega
    have hw2 : w.heap.size + 1 < ((w.alloc (.cells #[.slice A0 p.Stacks.Nodes.length c0, .slice A1 p.Counts.length c1] 29)).alloc (.cells #[.slice A2 q.Stacks.Nodes.length c2, .slice A3 q.Counts.length c3] 29)).heap.size := by simp
    have HX := Lib.hid (show (tNode.sl 48).R ((w.alloc (.cells #[.slice A0 p.Stacks.Nodes.length c0, .slice A1 p.Counts.length c1] 29)).alloc (.cells #[.slice A2 q.Stacks.Nodes.length c2, .slice A3 q.Counts.length c3] 29)) ((w.alloc (.cells #[.slice A0 p.Stacks.Nodes.length c0, .slice A1 p.Counts.length c1] 29)).alloc (.cells #[.slice A2 q.Stacks.Nodes.length c2, .slice A3 q.Counts.length c3] 29)).heap.size [.slice A0 p.Stacks.Nodes.length c0] p.Stacks.Nodes from Ty.up _ hx (by repeat (first | with_reducible exact Gro.refl _ | with_reducible exact Gro.refl_drew _ _ _ | with_reducible exact Gro.refl_drewN _ _ _ _ | assumption | with_reducible apply Gro.more | with_reducible apply Gro.alloc | with_reducible apply Gro.drew | with_reducible apply Gro.drewN)))
    have HY := Lib.hid (show (intT.sl 3).R ((w.alloc (.cells #[.slice A0 p.Stacks.Nodes.length c0, .slice A1 p.Counts.length c1] 29)).alloc (.cells #[.slice A2 q.Stacks.Nodes.length c2, .slice A3 q.Counts.length c3] 29)) ((w.alloc (.cells #[.slice A0 p.Stacks.Nodes.length c0, .slice A1 p.Counts.length c1] 29)).alloc (.cells #[.slice A2 q.Stacks.Nodes.length c2, .slice A3 q.Counts.length c3] 29)).heap.size [.slice A1 p.Counts.length c1] p.Counts from Ty.up _ hy (by repeat (first | with_reducible exact Gro.refl _ | with_reducible exact Gro.refl_drew _ _ _ | with_reducible exact Gro.refl_drewN _ _ _ _ | assumption | with_reducible apply Gro.more | with_reducible apply Gro.alloc | with_reducible apply Gro.drew | with_reducible apply Gro.drewN)))
    have HZ := Lib.hid (show (tNode.sl 48).R ((w.alloc (.cells #[.slice A0 p.Stacks.Nodes.length c0, .slice A1 p.Counts.length c1] 29)).alloc (.cells #[.slice A2 q.Stacks.Nodes.length c2, .slice A3 q.Counts.length c3] 29)) ((w.alloc (.cells #[.slice A0 p.Stacks.Nodes.length c0, .slice A1 p.Counts.length c1] 29)).alloc (.cells #[.slice A2 q.Stacks.Nodes.length c2, .slice A3 q.Counts.length c3] 29)).heap.size [.slice A2 q.Stacks.Nodes.length c2] q.Stacks.Nodes from Ty.up _ hz (by repeat (first | with_reducible exact Gro.refl _ | with_reducible exact Gro.refl_drew _ _ _ | with_reducible exact Gro.refl_drewN _ _ _ _ | assumption | with_reducible apply Gro.more | with_reducible apply Gro.alloc | with_reducible apply Gro.drew | with_reducible apply Gro.drewN)))
    have HU := Lib.hid (show (intT.sl 3).R ((w.alloc (.cells #[.slice A0 p.Stacks.Nodes.length c0, .slice A1 p.Counts.length c1] 29)).alloc (.cells #[.slice A2 q.Stacks.Nodes.length c2, .slice A3 q.Counts.length c3] 29)) ((w.alloc (.cells #[.slice A0 p.Stacks.Nodes.length c0, .slice A1 p.Counts.length c1] 29)).alloc (.cells #[.slice A2 q.Stacks.Nodes.length c2, .slice A3 q.Counts.length c3] 29)).heap.size [.slice A3 q.Counts.length c3] q.Counts from Ty.up _ hu (by repeat (first | with_reducible exact Gro.refl _ | with_reducible exact Gro.refl_drew _ _ _ | with_reducible exact Gro.refl_drewN _ _ _ _ | assumption | with_reducible apply Gro.more | with_reducible apply Gro.alloc | with_reducible apply Gro.drew | with_reducible apply Gro.drewN)))
    have HG := Lib.hid (show Gro w ((w.alloc (.cells #[.slice A0 p.Stacks.Nodes.length c0, .slice A1 p.Counts.length c1] 29)).alloc (.cells #[.slice A2 q.Stacks.Nodes.length c2, .slice A3 q.Counts.length c3] 29)) from (by repeat (first | with_reducible exact Gro.refl _ | with_reducible exact Gro.refl_drew _ _ _ | with_reducible exact Gro.refl_drewN _ _ _ _ | assumption | with_reducible apply Gro.more | with_reducible apply Gro.alloc | with_reducible apply Gro.drew | with_reducible apply Gro.drewN)))
    generalize (w.alloc (.cells #[.slice A0 p.Stacks.Nodes.length c0, .slice A1 p.Counts.length c1] 29)).alloc (.cells #[.slice A2 q.Stacks.Nodes.length c2, .slice A3 q.Counts.length c3] 29) = W at h0 h1 h2 h3 hw1 hw2 HX HY HZ HU HG ⊢
    clear hx hy hz hu
    go_region_with (first
      | (go_at_call 25; (with_reducible refine (profileOk_s (p := p) (Ty.up _ HX.out (by repeat (first | with_reducible exact Gro.refl _ | with_reducible exact Gro.refl_drew _ _ _ | with_reducible exact Gro.refl_drewN _ _ _ _ | assumption | with_reducible apply Gro.more | with_reducible apply Gro.alloc | with_reducible apply Gro.drew | with_reducible apply Gro.drewN))) (Ty.up _ HY.out (by repeat (first | with_reducible exact Gro.refl _ | with_reducible exact Gro.refl_drew _ _ _ | with_reducible exact Gro.refl_drewN _ _ _ _ | assumption | with_reducible apply Gro.more | with_reducible apply Gro.alloc | with_reducible apply Gro.drew | with_reducible apply Gro.drewN)))).mono ?_); rw [HP.out]; rintro e w1 ⟨rfl, os1, d1, rfl⟩))
    all_goals go_wp2
    all_goals go_ret
    all_goals exact ⟨ret_bool (by rw [HR.out]), HG.out.trans (by repeat (first | with_reducible exact Gro.refl _ | with_reducible exact Gro.refl_drew _ _ _ | with_reducible exact Gro.refl_drewN _ _ _ _ | assumption | with_reducible apply Gro.more | with_reducible apply Gro.alloc | with_reducible apply Gro.drew | with_reducible apply Gro.drewN))⟩
  cases hq : profileOk q
  · have HR := Lib.hid (show sameP p q = false from by simp [sameP, hq])
    have HP := Lib.hid hp
    have HQ := Lib.hid hq
    clear hp hq
    go_enter Tryz.func11, Tryz.ntmps11
    go_wp2_with (fail)
    have h0 : ((w.alloc (.cells #[.slice A0 p.Stacks.Nodes.length c0, .slice A1 p.Counts.length c1] 29)).alloc (.cells #[.slice A2 q.Stacks.Nodes.length c2, .slice A3 q.Counts.length c3] 29)).cell? ⟨w.heap.size, 0, none⟩ = some (.slice A0 p.Stacks.Nodes.length c0) := by simp [go_sem]
    have h1 : ((w.alloc (.cells #[.slice A0 p.Stacks.Nodes.length c0, .slice A1 p.Counts.length c1] 29)).alloc (.cells #[.slice A2 q.Stacks.Nodes.length c2, .slice A3 q.Counts.length c3] 29)).cell? ⟨w.heap.size, 1, none⟩ = some (.slice A1 p.Counts.length c1) := by simp [go_sem]
    have h2 : ((w.alloc (.cells #[.slice A0 p.Stacks.Nodes.length c0, .slice A1 p.Counts.length c1] 29)).alloc (.cells #[.slice A2 q.Stacks.Nodes.length c2, .slice A3 q.Counts.length c3] 29)).cell? ⟨w.heap.size + 1, 0, none⟩ = some (.slice A2 q.Stacks.Nodes.length c2) := by simp [go_sem]
    have h3 : ((w.alloc (.cells #[.slice A0 p.Stacks.Nodes.length c0, .slice A1 p.Counts.length c1] 29)).alloc (.cells #[.slice A2 q.Stacks.Nodes.length c2, .slice A3 q.Counts.length c3] 29)).cell? ⟨w.heap.size + 1, 1, none⟩ = some (.slice A3 q.Counts.length c3) := by simp [go_sem]
    have hw1 : w.heap.size < ((w.alloc (.cells #[.slice A0 p.Stacks.Nodes.length c0, .slice A1 p.Counts.length c1] 29)).alloc (.cells #[.slice A2 q.Stacks.Nodes.length c2, .slice A3 q.Counts.length c3] 29)).heap.size := by simp; omega
    have hw2 : w.heap.size + 1 < ((w.alloc (.cells #[.slice A0 p.Stacks.Nodes.length c0, .slice A1 p.Counts.length c1] 29)).alloc (.cells #[.slice A2 q.Stacks.Nodes.length c2, .slice A3 q.Counts.length c3] 29)).heap.size := by simp
    have HX := Lib.hid (show (tNode.sl 48).R ((w.alloc (.cells #[.slice A0 p.Stacks.Nodes.length c0, .slice A1 p.Counts.length c1] 29)).alloc (.cells #[.slice A2 q.Stacks.Nodes.length c2, .slice A3 q.Counts.length c3] 29)) ((w.alloc (.cells #[.slice A0 p.Stacks.Nodes.length c0, .slice A1 p.Counts.length c1] 29)).alloc (.cells #[.slice A2 q.Stacks.Nodes.length c2, .slice A3 q.Counts.length c3] 29)).heap.size [.slice A0 p.Stacks.Nodes.length c0] p.Stacks.Nodes from Ty.up _ hx (by repeat (first | with_reducible exact Gro.refl _ | with_reducible exact Gro.refl_drew _ _ _ | with_reducible exact Gro.refl_drewN _ _ _ _ | assumption | with_reducible apply Gro.more | with_reducible apply Gro.alloc | with_reducible apply Gro.drew | with_reducible apply Gro.drewN)))
    have HY := Lib.hid (show (intT.sl 3).R ((w.alloc (.cells #[.slice A0 p.Stacks.Nodes.length c0, .slice A1 p.Counts.length c1] 29)).alloc (.cells #[.slice A2 q.Stacks.Nodes.length c2, .slice A3 q.Counts.length c3] 29)) ((w.alloc (.cells #[.slice A0 p.Stacks.Nodes.length c0, .slice A1 p.Counts.length c1] 29)).alloc (.cells #[.slice A2 q.Stacks.Nodes.length c2, .slice A3 q.Counts.length c3] 29)).heap.size [.slice A1 p.Counts.length c1] p.Counts from Ty.up _ hy (by repeat (first | with_reducible exact Gro.refl _ | with_reducible exact Gro.refl_drew _ _ _ | with_reducible exact Gro.refl_drewN _ _ _ _ | assumption | with_reducible apply Gro.more | with_reducible apply Gro.alloc | with_reducible apply Gro.drew | with_reducible apply Gro.drewN)))
    have HZ := Lib.hid (show (tNode.sl 48).R ((w.alloc (.cells #[.slice A0 p.Stacks.Nodes.length c0, .slice A1 p.Counts.length c1] 29)).alloc (.cells #[.slice A2 q.Stacks.Nodes.length c2, .slice A3 q.Counts.length c3] 29)) ((w.alloc (.cells #[.slice A0 p.Stacks.Nodes.length c0, .slice A1 p.Counts.length c1] 29)).alloc (.cells #[.slice A2 q.Stacks.Nodes.length c2, .slice A3 q.Counts.length c3] 29)).heap.size [.slice A2 q.Stacks.Nodes.length c2] q.Stacks.Nodes from Ty.up _ hz (by repeat (first | with_reducible exact Gro.refl _ | with_reducible exact Gro.refl_drew _ _ _ | with_reducible exact Gro.refl_drewN _ _ _ _ | assumption | with_reducible apply Gro.more | with_reducible apply Gro.alloc | with_reducible apply Gro.drew | with_reducible apply Gro.drewN)))
    have HU := Lib.hid (show (intT.sl 3).R ((w.alloc (.cells #[.slice A0 p.Stacks.Nodes.length c0, .slice A1 p.Counts.length c1] 29)).alloc (.cells #[.slice A2 q.Stacks.Nodes.length c2, .slice A3 q.Counts.length c3] 29)) ((w.alloc (.cells #[.slice A0 p.Stacks.Nodes.length c0, .slice A1 p.Counts.length c1] 29)).alloc (.cells #[.slice A2 q.Stacks.Nodes.length c2, .slice A3 q.Counts.length c3] 29)).heap.size [.slice A3 q.Counts.length c3] q.Counts from Ty.up _ hu (by repeat (first | with_reducible exact Gro.refl _ | with_reducible exact Gro.refl_drew _ _ _ | with_reducible exact Gro.refl_drewN _ _ _ _ | assumption | with_reducible apply Gro.more | with_reducible apply Gro.alloc | with_reducible apply Gro.drew | with_reducible apply Gro.drewN)))
    have HG := Lib.hid (show Gro w ((w.alloc (.cells #[.slice A0 p.Stacks.Nodes.length c0, .slice A1 p.Counts.length c1] 29)).alloc (.cells #[.slice A2 q.Stacks.Nodes.length c2, .slice A3 q.Counts.length c3] 29)) from (by repeat (first | with_reducible exact Gro.refl _ | with_reducible exact Gro.refl_drew _ _ _ | with_reducible exact Gro.refl_drewN _ _ _ _ | assumption | with_reducible apply Gro.more | with_reducible apply Gro.alloc | with_reducible apply Gro.drew | with_reducible apply Gro.drewN)))
    generalize (w.alloc (.cells #[.slice A0 p.Stacks.Nodes.length c0, .slice A1 p.Counts.length c1] 29)).alloc (.cells #[.slice A2 q.Stacks.Nodes.length c2, .slice A3 q.Counts.length c3] 29) = W at h0 h1 h2 h3 hw1 hw2 HX HY HZ HU HG ⊢
    clear hx hy hz hu
    go_region_with (first
      | (go_at_call 25; (with_reducible refine (profileOk_s (p := p) (Ty.up _ HX.out (by repeat (first | with_reducible exact Gro.refl _ | with_reducible exact Gro.refl_drew _ _ _ | with_reducible exact Gro.refl_drewN _ _ _ _ | assumption | with_reducible apply Gro.more | with_reducible apply Gro.alloc | with_reducible apply Gro.drew | with_reducible apply Gro.drewN))) (Ty.up _ HY.out (by repeat (first | with_reducible exact Gro.refl _ | with_reducible exact Gro.refl_drew _ _ _ | with_reducible exact Gro.refl_drewN _ _ _ _ | assumption | with_reducible apply Gro.more | with_reducible apply Gro.alloc | with_reducible apply Gro.drew | with_reducible apply Gro.drewN)))).mono ?_); rw [HP.out]; rintro e w1 ⟨rfl, os1, d1, rfl⟩)
      | (go_at_call 25; (with_reducible refine (profileOk_s (p := q) (Ty.up _ HZ.out (by repeat (first | with_reducible exact Gro.refl _ | with_reducible exact Gro.refl_drew _ _ _ | with_reducible exact Gro.refl_drewN _ _ _ _ | assumption | with_reducible apply Gro.more | with_reducible apply Gro.alloc | with_reducible apply Gro.drew | with_reducible apply Gro.drewN))) (Ty.up _ HU.out (by repeat (first | with_reducible exact Gro.refl _ | with_reducible exact Gro.refl_drew _ _ _ | with_reducible exact Gro.refl_drewN _ _ _ _ | assumption | with_reducible apply Gro.more | with_reducible apply Gro.alloc | with_reducible apply Gro.drew | with_reducible apply Gro.drewN)))).mono ?_); rw [HQ.out]; rintro e w2 ⟨rfl, os2, d2, rfl⟩))
    all_goals go_wp2
    all_goals go_ret
    all_goals exact ⟨ret_bool (by rw [HR.out]), HG.out.trans (by repeat (first | with_reducible exact Gro.refl _ | with_reducible exact Gro.refl_drew _ _ _ | with_reducible exact Gro.refl_drewN _ _ _ _ | assumption | with_reducible apply Gro.more | with_reducible apply Gro.alloc | with_reducible apply Gro.drew | with_reducible apply Gro.drewN))⟩
  · have HR := Lib.hid (show sameP p q = decide (entriesOf p = entriesOf q) from by simp [sameP, hp, hq])
    have HP := Lib.hid hp
    have HQ := Lib.hid hq
    clear hp hq
    go_enter Tryz.func11, Tryz.ntmps11
    go_wp2_with (fail)
    have h0 : ((w.alloc (.cells #[.slice A0 p.Stacks.Nodes.length c0, .slice A1 p.Counts.length c1] 29)).alloc (.cells #[.slice A2 q.Stacks.Nodes.length c2, .slice A3 q.Counts.length c3] 29)).cell? ⟨w.heap.size, 0, none⟩ = some (.slice A0 p.Stacks.Nodes.length c0) := by simp [go_sem]
    have h1 : ((w.alloc (.cells #[.slice A0 p.Stacks.Nodes.length c0, .slice A1 p.Counts.length c1] 29)).alloc (.cells #[.slice A2 q.Stacks.Nodes.length c2, .slice A3 q.Counts.length c3] 29)).cell? ⟨w.heap.size, 1, none⟩ = some (.slice A1 p.Counts.length c1) := by simp [go_sem]
    have h2 : ((w.alloc (.cells #[.slice A0 p.Stacks.Nodes.length c0, .slice A1 p.Counts.length c1] 29)).alloc (.cells #[.slice A2 q.Stacks.Nodes.length c2, .slice A3 q.Counts.length c3] 29)).cell? ⟨w.heap.size + 1, 0, none⟩ = some (.slice A2 q.Stacks.Nodes.length c2) := by simp [go_sem]
    have h3 : ((w.alloc (.cells #[.slice A0 p.Stacks.Nodes.length c0, .slice A1 p.Counts.length c1] 29)).alloc (.cells #[.slice A2 q.Stacks.Nodes.length c2, .slice A3 q.Counts.length c3] 29)).cell? ⟨w.heap.size + 1, 1, none⟩ = some (.slice A3 q.Counts.length c3) := by simp [go_sem]
    have hw1 : w.heap.size < ((w.alloc (.cells #[.slice A0 p.Stacks.Nodes.length c0, .slice A1 p.Counts.length c1] 29)).alloc (.cells #[.slice A2 q.Stacks.Nodes.length c2, .slice A3 q.Counts.length c3] 29)).heap.size := by simp; omega
    have hw2 : w.heap.size + 1 < ((w.alloc (.cells #[.slice A0 p.Stacks.Nodes.length c0, .slice A1 p.Counts.length c1] 29)).alloc (.cells #[.slice A2 q.Stacks.Nodes.length c2, .slice A3 q.Counts.length c3] 29)).heap.size := by simp
    have HX := Lib.hid (show (tNode.sl 48).R ((w.alloc (.cells #[.slice A0 p.Stacks.Nodes.length c0, .slice A1 p.Counts.length c1] 29)).alloc (.cells #[.slice A2 q.Stacks.Nodes.length c2, .slice A3 q.Counts.length c3] 29)) ((w.alloc (.cells #[.slice A0 p.Stacks.Nodes.length c0, .slice A1 p.Counts.length c1] 29)).alloc (.cells #[.slice A2 q.Stacks.Nodes.length c2, .slice A3 q.Counts.length c3] 29)).heap.size [.slice A0 p.Stacks.Nodes.length c0] p.Stacks.Nodes from Ty.up _ hx (by repeat (first | with_reducible exact Gro.refl _ | with_reducible exact Gro.refl_drew _ _ _ | with_reducible exact Gro.refl_drewN _ _ _ _ | assumption | with_reducible apply Gro.more | with_reducible apply Gro.alloc | with_reducible apply Gro.drew | with_reducible apply Gro.drewN)))
    have HY := Lib.hid (show (intT.sl 3).R ((w.alloc (.cells #[.slice A0 p.Stacks.Nodes.length c0, .slice A1 p.Counts.length c1] 29)).alloc (.cells #[.slice A2 q.Stacks.Nodes.length c2, .slice A3 q.Counts.length c3] 29)) ((w.alloc (.cells #[.slice A0 p.Stacks.Nodes.length c0, .slice A1 p.Counts.length c1] 29)).alloc (.cells #[.slice A2 q.Stacks.Nodes.length c2, .slice A3 q.Counts.length c3] 29)).heap.size [.slice A1 p.Counts.length c1] p.Counts from Ty.up _ hy (by repeat (first | with_reducible exact Gro.refl _ | with_reducible exact Gro.refl_drew _ _ _ | with_reducible exact Gro.refl_drewN _ _ _ _ | assumption | with_reducible apply Gro.more | with_reducible apply Gro.alloc | with_reducible apply Gro.drew | with_reducible apply Gro.drewN)))
    have HZ := Lib.hid (show (tNode.sl 48).R ((w.alloc (.cells #[.slice A0 p.Stacks.Nodes.length c0, .slice A1 p.Counts.length c1] 29)).alloc (.cells #[.slice A2 q.Stacks.Nodes.length c2, .slice A3 q.Counts.length c3] 29)) ((w.alloc (.cells #[.slice A0 p.Stacks.Nodes.length c0, .slice A1 p.Counts.length c1] 29)).alloc (.cells #[.slice A2 q.Stacks.Nodes.length c2, .slice A3 q.Counts.length c3] 29)).heap.size [.slice A2 q.Stacks.Nodes.length c2] q.Stacks.Nodes from Ty.up _ hz (by repeat (first | with_reducible exact Gro.refl _ | with_reducible exact Gro.refl_drew _ _ _ | with_reducible exact Gro.refl_drewN _ _ _ _ | assumption | with_reducible apply Gro.more | with_reducible apply Gro.alloc | with_reducible apply Gro.drew | with_reducible apply Gro.drewN)))
    have HU := Lib.hid (show (intT.sl 3).R ((w.alloc (.cells #[.slice A0 p.Stacks.Nodes.length c0, .slice A1 p.Counts.length c1] 29)).alloc (.cells #[.slice A2 q.Stacks.Nodes.length c2, .slice A3 q.Counts.length c3] 29)) ((w.alloc (.cells #[.slice A0 p.Stacks.Nodes.length c0, .slice A1 p.Counts.length c1] 29)).alloc (.cells #[.slice A2 q.Stacks.Nodes.length c2, .slice A3 q.Counts.length c3] 29)).heap.size [.slice A3 q.Counts.length c3] q.Counts from Ty.up _ hu (by repeat (first | with_reducible exact Gro.refl _ | with_reducible exact Gro.refl_drew _ _ _ | with_reducible exact Gro.refl_drewN _ _ _ _ | assumption | with_reducible apply Gro.more | with_reducible apply Gro.alloc | with_reducible apply Gro.drew | with_reducible apply Gro.drewN)))
    have HG := Lib.hid (show Gro w ((w.alloc (.cells #[.slice A0 p.Stacks.Nodes.length c0, .slice A1 p.Counts.length c1] 29)).alloc (.cells #[.slice A2 q.Stacks.Nodes.length c2, .slice A3 q.Counts.length c3] 29)) from (by repeat (first | with_reducible exact Gro.refl _ | with_reducible exact Gro.refl_drew _ _ _ | with_reducible exact Gro.refl_drewN _ _ _ _ | assumption | with_reducible apply Gro.more | with_reducible apply Gro.alloc | with_reducible apply Gro.drew | with_reducible apply Gro.drewN)))
    generalize (w.alloc (.cells #[.slice A0 p.Stacks.Nodes.length c0, .slice A1 p.Counts.length c1] 29)).alloc (.cells #[.slice A2 q.Stacks.Nodes.length c2, .slice A3 q.Counts.length c3] 29) = W at h0 h1 h2 h3 hw1 hw2 HX HY HZ HU HG ⊢
    clear hx hy hz hu
    go_region_held3 (fun w' => w'.cell? ⟨w.heap.size, 0, none⟩ = some (.slice A0 p.Stacks.Nodes.length c0) ∧ w'.cell? ⟨w.heap.size, 1, none⟩ = some (.slice A1 p.Counts.length c1) ∧ w'.cell? ⟨w.heap.size + 1, 0, none⟩ = some (.slice A2 q.Stacks.Nodes.length c2) ∧ w'.cell? ⟨w.heap.size + 1, 1, none⟩ = some (.slice A3 q.Counts.length c3)) ((repeat' apply And.intro) <;> (first | ((repeat (first | assumption | with_reducible refine gro_keeps ?_ _ _ | with_reducible refine alloc_keeps ?_ _ | with_reducible refine drew_keeps ?_)); done) | (simp [go_sem]; done))) (first
      | (go_at_call 25; (with_reducible refine (profileOk_s (p := p) (Ty.up _ HX.out (by repeat (first | with_reducible exact Gro.refl _ | with_reducible exact Gro.refl_drew _ _ _ | with_reducible exact Gro.refl_drewN _ _ _ _ | assumption | with_reducible apply Gro.more | with_reducible apply Gro.alloc | with_reducible apply Gro.drew | with_reducible apply Gro.drewN))) (Ty.up _ HY.out (by repeat (first | with_reducible exact Gro.refl _ | with_reducible exact Gro.refl_drew _ _ _ | with_reducible exact Gro.refl_drewN _ _ _ _ | assumption | with_reducible apply Gro.more | with_reducible apply Gro.alloc | with_reducible apply Gro.drew | with_reducible apply Gro.drewN)))).mono ?_); rw [HP.out]; rintro e w1 ⟨rfl, os1, d1, rfl⟩)
      | (go_at_call 25; (with_reducible refine (profileOk_s (p := q) (Ty.up _ HZ.out (by repeat (first | with_reducible exact Gro.refl _ | with_reducible exact Gro.refl_drew _ _ _ | with_reducible exact Gro.refl_drewN _ _ _ _ | assumption | with_reducible apply Gro.more | with_reducible apply Gro.alloc | with_reducible apply Gro.drew | with_reducible apply Gro.drewN))) (Ty.up _ HU.out (by repeat (first | with_reducible exact Gro.refl _ | with_reducible exact Gro.refl_drew _ _ _ | with_reducible exact Gro.refl_drewN _ _ _ _ | assumption | with_reducible apply Gro.more | with_reducible apply Gro.alloc | with_reducible apply Gro.drew | with_reducible apply Gro.drewN)))).mono ?_); rw [HQ.out]; rintro e w2 ⟨rfl, os2, d2, rfl⟩)
      | (go_at_call 27; (with_reducible refine (entriesOf_s (p := p) (Ty.up _ HX.out (by repeat (first | with_reducible exact Gro.refl _ | with_reducible exact Gro.refl_drew _ _ _ | with_reducible exact Gro.refl_drewN _ _ _ _ | assumption | with_reducible apply Gro.more | with_reducible apply Gro.alloc | with_reducible apply Gro.drew | with_reducible apply Gro.drewN))) (Ty.up _ HY.out (by repeat (first | with_reducible exact Gro.refl _ | with_reducible exact Gro.refl_drew _ _ _ | with_reducible exact Gro.refl_drewN _ _ _ _ | assumption | with_reducible apply Gro.more | with_reducible apply Gro.alloc | with_reducible apply Gro.drew | with_reducible apply Gro.drewN))) (by omega)).mono ?_); rintro e w3 ⟨B3, b3, rfl, hF3, os3, d3, rfl⟩)
      | (go_at_call 27; (with_reducible refine (entriesOf_s (p := q) (Ty.up _ HZ.out (by repeat (first | with_reducible exact Gro.refl _ | with_reducible exact Gro.refl_drew _ _ _ | with_reducible exact Gro.refl_drewN _ _ _ _ | assumption | with_reducible apply Gro.more | with_reducible apply Gro.alloc | with_reducible apply Gro.drew | with_reducible apply Gro.drewN))) (Ty.up _ HU.out (by repeat (first | with_reducible exact Gro.refl _ | with_reducible exact Gro.refl_drew _ _ _ | with_reducible exact Gro.refl_drewN _ _ _ _ | assumption | with_reducible apply Gro.more | with_reducible apply Gro.alloc | with_reducible apply Gro.drew | with_reducible apply Gro.drewN))) (by omega)).mono ?_); rintro e w4 ⟨B4, b4, rfl, hF4, os4, d4, rfl⟩)
      | (go_at_call 26; (with_reducible refine (sameE_s (xs := entriesOf p) (ys := entriesOf q) (Ty.up _ hF3.read (by repeat (first | with_reducible exact Gro.refl _ | with_reducible exact Gro.refl_drew _ _ _ | with_reducible exact Gro.refl_drewN _ _ _ _ | assumption | with_reducible apply Gro.more | with_reducible apply Gro.alloc | with_reducible apply Gro.drew | with_reducible apply Gro.drewN))) (Ty.up _ hF4.read (by repeat (first | with_reducible exact Gro.refl _ | with_reducible exact Gro.refl_drew _ _ _ | with_reducible exact Gro.refl_drewN _ _ _ _ | assumption | with_reducible apply Gro.more | with_reducible apply Gro.alloc | with_reducible apply Gro.drew | with_reducible apply Gro.drewN)))).mono ?_); rintro e w5 ⟨rfl, os5, d5, rfl⟩))
    all_goals go_wp2
    all_goals go_ret
    all_goals exact ⟨ret_bool (by rw [HR.out]), HG.out.trans (by repeat (first | with_reducible exact Gro.refl _ | with_reducible exact Gro.refl_drew _ _ _ | with_reducible exact Gro.refl_drewN _ _ _ _ | assumption | with_reducible apply Gro.more | with_reducible apply Gro.alloc | with_reducible apply Gro.drew | with_reducible apply Gro.drewN))⟩
end Go.Proofs.YtcomafmiclkmhaaGreatDoor
