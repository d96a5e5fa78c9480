/-
  The law FnExactDiffProfiles answers true for every input: the program and the reference compute the same; the arguments stay; the result is of its own memory. No condition.
-/
import Derived.Test.YtemeenondbdioaaDoorRows
import Derived.Test.YtemeenondbdioaaDoorOpen
import Derived.Test.YtemeenondbdioaaDoorDiff2
import Derived.Test.YtemeenondbdioaaDoorDiff3
import Derived.Test.YtemeenondbdioaaDoorTie
import Derived.Test.YtemeenondbdioaaDoorCards
import Derived.LaidMore
import Derived.Stop.Joined
import Derived.SevenTiedAt
import Derived.ShutString
import Derived.Deep.RegionHeld3
set_option linter.unusedVariables false
set_option linter.unusedSimpArgs false
namespace Go.Proofs.YtemeenondbdioaaDoor.fnExactDiffProfiles
open Go.ChangeShapes Go.WideShapes Go.ChangeAt Go.RowKit
open Go.ChangeMaps (open_string shut_string)
theorem own : ownKnob Tryd.prog.godebug = none := by kernel_rfl
theorem laidOut : laidOutB Tryd.prog = true := by kernel_rfl
theorem rdProfile {w : World} {B : Nat} {x : DProfile} {A0 : Option Addr} {c0 : Nat} {A1 : Option Addr} {c1 : Nat} (h : tProfile.R w B [.slice A0 x.Stacks.Nodes.length c0, .slice A1 x.Counts.length c1] x) : (tNode.sl 126).R w B [.slice A0 x.Stacks.Nodes.length c0] x.Stacks.Nodes ∧ (intT.sl 3).R w B [.slice A1 x.Counts.length c1] x.Counts := by
  obtain ⟨A0', c0', A1', c1', hc, f0, f1⟩ := tProfile_R h
  simp only [List.cons.injEq, Value.slice.injEq, true_and, and_true] at hc
  obtain ⟨⟨rfl, rfl⟩, ⟨rfl, rfl⟩⟩ := hc
  exact ⟨f0, f1⟩
set_option maxRecDepth 100000 in
set_option maxHeartbeats 4000000 in
theorem walk (w : World) (cs_x : Array Value) (x : DProfile) (h_x : tProfile.R w w.heap.size cs_x.toList x) (cs_y : Array Value) (y : DProfile) (h_y : tProfile.R w w.heap.size cs_y.toList y) :
    Calls Tryd.prog 8 #[.agg cs_x, .agg cs_y] w fun e w' => e = .returned (.bool true) ∧ Gro w w' := by
  obtain ⟨A0, c0, A1, c1, hcs_x, p_x0, p_x1⟩ := tProfile_R h_x
  obtain rfl := Array.toList_inj.1 (show cs_x.toList = (#[.slice A0 x.Stacks.Nodes.length c0, .slice A1 x.Counts.length c1] : Array Value).toList from hcs_x)
  clear h_x hcs_x
  obtain ⟨A2, c2, A3, c3, hcs_y, p_y0, p_y1⟩ := tProfile_R h_y
  obtain rfl := Array.toList_inj.1 (show cs_y.toList = (#[.slice A2 y.Stacks.Nodes.length c2, .slice A3 y.Counts.length c3] : Array Value).toList from hcs_y)
  clear h_y hcs_y
  obtain ⟨n0, hn0⟩ : ∃ n, szProfile x = n := ⟨_, rfl⟩
  obtain ⟨n1, hn1⟩ : ∃ n, szProfile y = n := ⟨_, rfl⟩
  by_cases hz0 : (n0 : Int) ≤ 1048576
  case neg =>
    have e0 : szRes (1048576) (szProfile x) = -1 := by rw [hn0]; exact if_neg (by omega)
    clear hn0 hn1
    go_enter Tryd.func8, Tryd.ntmps8
    go_wp2_with (fail)
    refine (szProfile_l (x := x) (Ty.up _ p_x0 (by repeat (first | with_reducible exact Gro.refl _ | with_reducible exact Gro.refl_drew _ _ _ | with_reducible exact Gro.refl_drewN _ _ _ _ | assumption | with_reducible apply Gro.more | with_reducible apply Gro.alloc | with_reducible apply Gro.drew | with_reducible apply Gro.drewN))) (Ty.up _ p_x1 (by repeat (first | with_reducible exact Gro.refl _ | with_reducible exact Gro.refl_drew _ _ _ | with_reducible exact Gro.refl_drewN _ _ _ _ | assumption | with_reducible apply Gro.more | with_reducible apply Gro.alloc | with_reducible apply Gro.drew | with_reducible apply Gro.drewN))) (by omega) (by omega)).mono ?_
    rintro e w1 ⟨rfl, os0, d0, rfl⟩
    go_wp2
    go_ret
    exact ⟨rfl, (by repeat (first | with_reducible exact Gro.refl _ | with_reducible exact Gro.refl_drew _ _ _ | with_reducible exact Gro.refl_drewN _ _ _ _ | assumption | with_reducible apply Gro.more | with_reducible apply Gro.alloc | with_reducible apply Gro.drew | with_reducible apply Gro.drewN))⟩
  by_cases hz1 : (n0 : Int) + (n1 : Int) ≤ 1048576
  case neg =>
    have e0 : szRes (1048576) (szProfile x) = 1048576 - (n0 : Int) := by rw [hn0]; exact if_pos (by omega)
    have e1 : szRes (1048576 - (n0 : Int)) (szProfile y) = -1 := by rw [hn1]; exact if_neg (by omega)
    clear hn0 hn1
    go_enter Tryd.func8, Tryd.ntmps8
    go_wp2_with (fail)
    refine (szProfile_l (x := x) (Ty.up _ p_x0 (by repeat (first | with_reducible exact Gro.refl _ | with_reducible exact Gro.refl_drew _ _ _ | with_reducible exact Gro.refl_drewN _ _ _ _ | assumption | with_reducible apply Gro.more | with_reducible apply Gro.alloc | with_reducible apply Gro.drew | with_reducible apply Gro.drewN))) (Ty.up _ p_x1 (by repeat (first | with_reducible exact Gro.refl _ | with_reducible exact Gro.refl_drew _ _ _ | with_reducible exact Gro.refl_drewN _ _ _ _ | assumption | with_reducible apply Gro.more | with_reducible apply Gro.alloc | with_reducible apply Gro.drew | with_reducible apply Gro.drewN))) (by omega) (by omega)).mono ?_
    rintro e w1 ⟨rfl, os0, d0, rfl⟩
    go_wp2_with (fail)
    refine (szProfile_l (x := y) (Ty.up _ p_y0 (by repeat (first | with_reducible exact Gro.refl _ | with_reducible exact Gro.refl_drew _ _ _ | with_reducible exact Gro.refl_drewN _ _ _ _ | assumption | with_reducible apply Gro.more | with_reducible apply Gro.alloc | with_reducible apply Gro.drew | with_reducible apply Gro.drewN))) (Ty.up _ p_y1 (by repeat (first | with_reducible exact Gro.refl _ | with_reducible exact Gro.refl_drew _ _ _ | with_reducible exact Gro.refl_drewN _ _ _ _ | assumption | with_reducible apply Gro.more | with_reducible apply Gro.alloc | with_reducible apply Gro.drew | with_reducible apply Gro.drewN))) (by omega) (by omega)).mono ?_
    rintro e w1 ⟨rfl, os1, d1, rfl⟩
    go_wp2
    go_ret
    exact ⟨rfl, (by repeat (first | with_reducible exact Gro.refl _ | with_reducible exact Gro.refl_drew _ _ _ | with_reducible exact Gro.refl_drewN _ _ _ _ | assumption | with_reducible apply Gro.more | with_reducible apply Gro.alloc | with_reducible apply Gro.drew | with_reducible apply Gro.drewN))⟩
  have e0 : szRes (1048576) (szProfile x) = 1048576 - (n0 : Int) := by rw [hn0]; exact if_pos (by omega)
  have e1 : szRes (1048576 - (n0 : Int)) (szProfile y) = 1048576 - (n0 : Int) - (n1 : Int) := by rw [hn1]; exact if_pos (by omega)
  have hl_x0 : x.Stacks.Nodes.length ≤ 1048576 := by have h := hn0; unfold szProfile szStacks at h; have := szL_len szNode x.Stacks.Nodes; omega
  have hl_x1 : x.Counts.length ≤ 1048576 := by have h := hn0; unfold szProfile szStacks at h; omega
  have hs_x : szProfile x ≤ 1048576 := by omega
  have hl_y0 : y.Stacks.Nodes.length ≤ 1048576 := by have h := hn1; unfold szProfile szStacks at h; have := szL_len szNode y.Stacks.Nodes; omega
  have hl_y1 : y.Counts.length ≤ 1048576 := by have h := hn1; unfold szProfile szStacks at h; omega
  have hs_y : szProfile y ≤ 1048576 := by omega
  have hcnt_x : cntProfile x ≤ 8388608 := by unfold cntProfile cntStacks cntNodeS; omega
  have hcnt_y : cntProfile y ≤ 8388608 := by unfold cntProfile cntStacks cntNodeS; omega
  have HN0 := Lib.hid hn0
  have HN1 := Lib.hid hn1
  clear hn0 hn1
  obtain ⟨p, hp, hpb0⟩ : ∃ p, Hid (diffsOf x y = p) ∧ p.length ≤ 2097152 ∧ cntDeltaS p ≤ 8388608 := ⟨_, Lib.hid rfl, by have := diffsOf_len x y; unfold cntDeltaS; omega⟩
  go_enter Tryd.func8, Tryd.ntmps8
  go_wp2_with (fail)
  refine (szProfile_l (x := x) (Ty.up _ p_x0 (by repeat (first | with_reducible exact Gro.refl _ | with_reducible exact Gro.refl_drew _ _ _ | with_reducible exact Gro.refl_drewN _ _ _ _ | assumption | with_reducible apply Gro.more | with_reducible apply Gro.alloc | with_reducible apply Gro.drew | with_reducible apply Gro.drewN))) (Ty.up _ p_x1 (by repeat (first | with_reducible exact Gro.refl _ | with_reducible exact Gro.refl_drew _ _ _ | with_reducible exact Gro.refl_drewN _ _ _ _ | assumption | with_reducible apply Gro.more | with_reducible apply Gro.alloc | with_reducible apply Gro.drew | with_reducible apply Gro.drewN))) (by omega) (by omega)).mono ?_
  rintro e w1 ⟨rfl, os0, d0, rfl⟩
  go_wp2_with (fail)
  refine (szProfile_l (x := y) (Ty.up _ p_y0 (by repeat (first | with_reducible exact Gro.refl _ | with_reducible exact Gro.refl_drew _ _ _ | with_reducible exact Gro.refl_drewN _ _ _ _ | assumption | with_reducible apply Gro.more | with_reducible apply Gro.alloc | with_reducible apply Gro.drew | with_reducible apply Gro.drewN))) (Ty.up _ p_y1 (by repeat (first | with_reducible exact Gro.refl _ | with_reducible exact Gro.refl_drew _ _ _ | with_reducible exact Gro.refl_drewN _ _ _ _ | assumption | with_reducible apply Gro.more | with_reducible apply Gro.alloc | with_reducible apply Gro.drew | with_reducible apply Gro.drewN))) (by omega) (by omega)).mono ?_
  rintro e w1 ⟨rfl, os1, d1, rfl⟩
  go_wp2_with (fail)
  go_region_held3 (fun w' => w'.cell? ⟨w.heap.size, 0, none⟩ = some (.slice A0 x.Stacks.Nodes.length c0) ∧ w'.cell? ⟨w.heap.size, 1, none⟩ = some (.slice A1 x.Counts.length c1) ∧ w'.cell? ⟨w.heap.size + 1, 0, none⟩ = some (.slice A2 y.Stacks.Nodes.length c2) ∧ w'.cell? ⟨w.heap.size + 1, 1, none⟩ = some (.slice A3 y.Counts.length c3)) ((repeat' apply And.intro) <;> (first | ((repeat (first | assumption | with_reducible refine gro_keeps ?_ _ _ | with_reducible refine alloc_keeps ?_ _ | with_reducible refine drew_keeps ?_)); done) | (simp [go_sem]; done))) (first
      | (go_at_call 21; (with_reducible refine (toProfile_l (x := x) (Ty.up _ p_x0 (by repeat (first | with_reducible exact Gro.refl _ | with_reducible exact Gro.refl_drew _ _ _ | with_reducible exact Gro.refl_drewN _ _ _ _ | assumption | with_reducible apply Gro.more | with_reducible apply Gro.alloc | with_reducible apply Gro.drew | with_reducible apply Gro.drewN))) (Ty.up _ p_x1 (by repeat (first | with_reducible exact Gro.refl _ | with_reducible exact Gro.refl_drew _ _ _ | with_reducible exact Gro.refl_drewN _ _ _ _ | assumption | with_reducible apply Gro.more | with_reducible apply Gro.alloc | with_reducible apply Gro.drew | with_reducible apply Gro.drewN))) (by omega)).mono ?_); rintro e w1 ⟨A3_0, c3_0, A3_1, c3_1, rfl, hF3, os3, d3, rfl⟩)
      | (go_at_call 21; (with_reducible refine (toProfile_l (x := y) (Ty.up _ p_y0 (by repeat (first | with_reducible exact Gro.refl _ | with_reducible exact Gro.refl_drew _ _ _ | with_reducible exact Gro.refl_drewN _ _ _ _ | assumption | with_reducible apply Gro.more | with_reducible apply Gro.alloc | with_reducible apply Gro.drew | with_reducible apply Gro.drewN))) (Ty.up _ p_y1 (by repeat (first | with_reducible exact Gro.refl _ | with_reducible exact Gro.refl_drew _ _ _ | with_reducible exact Gro.refl_drewN _ _ _ _ | assumption | with_reducible apply Gro.more | with_reducible apply Gro.alloc | with_reducible apply Gro.drew | with_reducible apply Gro.drewN))) (by omega)).mono ?_); rintro e w1 ⟨A4_0, c4_0, A4_1, c4_1, rfl, hF4, os4, d4, rfl⟩)
      | (go_at_call 35; (with_reducible refine (diff_s (p := x) (q := y) (Ty.up _ (rdProfile hF3.read).1 (by repeat (first | with_reducible exact Gro.refl _ | with_reducible exact Gro.refl_drew _ _ _ | with_reducible exact Gro.refl_drewN _ _ _ _ | assumption | with_reducible apply Gro.more | with_reducible apply Gro.alloc | with_reducible apply Gro.drew | with_reducible apply Gro.drewN))) (Ty.up _ (rdProfile hF3.read).2 (by repeat (first | with_reducible exact Gro.refl _ | with_reducible exact Gro.refl_drew _ _ _ | with_reducible exact Gro.refl_drewN _ _ _ _ | assumption | with_reducible apply Gro.more | with_reducible apply Gro.alloc | with_reducible apply Gro.drew | with_reducible apply Gro.drewN))) (by omega) (Ty.up _ (rdProfile hF4.read).1 (by repeat (first | with_reducible exact Gro.refl _ | with_reducible exact Gro.refl_drew _ _ _ | with_reducible exact Gro.refl_drewN _ _ _ _ | assumption | with_reducible apply Gro.more | with_reducible apply Gro.alloc | with_reducible apply Gro.drew | with_reducible apply Gro.drewN))) (Ty.up _ (rdProfile hF4.read).2 (by repeat (first | with_reducible exact Gro.refl _ | with_reducible exact Gro.refl_drew _ _ _ | with_reducible exact Gro.refl_drewN _ _ _ _ | assumption | with_reducible apply Gro.more | with_reducible apply Gro.alloc | with_reducible apply Gro.drew | with_reducible apply Gro.drewN))) (by omega)).mono ?_); rw [hp.out]; rintro e w1 ⟨B5_0, e5_0, rfl, hR5, os5, d5, rfl⟩))
  go_wp2_with (fail)
  refine (toProfile_l (x := x) (Ty.up _ p_x0 (by repeat (first | with_reducible exact Gro.refl _ | with_reducible exact Gro.refl_drew _ _ _ | with_reducible exact Gro.refl_drewN _ _ _ _ | assumption | with_reducible apply Gro.more | with_reducible apply Gro.alloc | with_reducible apply Gro.drew | with_reducible apply Gro.drewN))) (Ty.up _ p_x1 (by repeat (first | with_reducible exact Gro.refl _ | with_reducible exact Gro.refl_drew _ _ _ | with_reducible exact Gro.refl_drewN _ _ _ _ | assumption | with_reducible apply Gro.more | with_reducible apply Gro.alloc | with_reducible apply Gro.drew | with_reducible apply Gro.drewN))) (by omega)).mono ?_
  rintro e w1 ⟨A6_0, c6_0, A6_1, c6_1, rfl, hF6, os6, d6, rfl⟩
  go_wp2_with (fail)
  refine (toProfile_l (x := y) (Ty.up _ p_y0 (by repeat (first | with_reducible exact Gro.refl _ | with_reducible exact Gro.refl_drew _ _ _ | with_reducible exact Gro.refl_drewN _ _ _ _ | assumption | with_reducible apply Gro.more | with_reducible apply Gro.alloc | with_reducible apply Gro.drew | with_reducible apply Gro.drewN))) (Ty.up _ p_y1 (by repeat (first | with_reducible exact Gro.refl _ | with_reducible exact Gro.refl_drew _ _ _ | with_reducible exact Gro.refl_drewN _ _ _ _ | assumption | with_reducible apply Gro.more | with_reducible apply Gro.alloc | with_reducible apply Gro.drew | with_reducible apply Gro.drewN))) (by omega)).mono ?_
  rintro e w1 ⟨A7_0, c7_0, A7_1, c7_1, rfl, hF7, os7, d7, rfl⟩
  go_wp2_with (fail)
  refine (diff_i (p := x) (q := y) (Ty.up _ (rdProfile hF6.read).1 (by repeat (first | with_reducible exact Gro.refl _ | with_reducible exact Gro.refl_drew _ _ _ | with_reducible exact Gro.refl_drewN _ _ _ _ | assumption | with_reducible apply Gro.more | with_reducible apply Gro.alloc | with_reducible apply Gro.drew | with_reducible apply Gro.drewN))) (Ty.up _ (rdProfile hF6.read).2 (by repeat (first | with_reducible exact Gro.refl _ | with_reducible exact Gro.refl_drew _ _ _ | with_reducible exact Gro.refl_drewN _ _ _ _ | assumption | with_reducible apply Gro.more | with_reducible apply Gro.alloc | with_reducible apply Gro.drew | with_reducible apply Gro.drewN))) (by omega) (Ty.up _ (rdProfile hF7.read).1 (by repeat (first | with_reducible exact Gro.refl _ | with_reducible exact Gro.refl_drew _ _ _ | with_reducible exact Gro.refl_drewN _ _ _ _ | assumption | with_reducible apply Gro.more | with_reducible apply Gro.alloc | with_reducible apply Gro.drew | with_reducible apply Gro.drewN))) (Ty.up _ (rdProfile hF7.read).2 (by repeat (first | with_reducible exact Gro.refl _ | with_reducible exact Gro.refl_drew _ _ _ | with_reducible exact Gro.refl_drewN _ _ _ _ | assumption | with_reducible apply Gro.more | with_reducible apply Gro.alloc | with_reducible apply Gro.drew | with_reducible apply Gro.drewN))) (by omega)).mono ?_
  rw [hp.out]
  rintro e w1 ⟨B8_0, e8_0, rfl, hR8, os8, d8, rfl⟩
  go_wp2_with (fail)
  refine (eqDeltaS_l (xs := p) (ys := p) (Ty.up _ hR8.read (by repeat (first | with_reducible exact Gro.refl _ | with_reducible exact Gro.refl_drew _ _ _ | with_reducible exact Gro.refl_drewN _ _ _ _ | assumption | with_reducible apply Gro.more | with_reducible apply Gro.alloc | with_reducible apply Gro.drew | with_reducible apply Gro.drewN))) (Ty.up _ hR5.read (by repeat (first | with_reducible exact Gro.refl _ | with_reducible exact Gro.refl_drew _ _ _ | with_reducible exact Gro.refl_drewN _ _ _ _ | assumption | with_reducible apply Gro.more | with_reducible apply Gro.alloc | with_reducible apply Gro.drew | with_reducible apply Gro.drewN)))).mono ?_
  rintro e w1 ⟨rfl, os9, d9, rfl⟩
  go_wp2_with (fail)
  go_region_held3 (fun w' => w'.cell? ⟨w.heap.size + 1 + 1 + os0.size + os1.size + os3.size + os4.size + os5.size + os6.size, 0, none⟩ = some (.slice A6_0 x.Stacks.Nodes.length c6_0) ∧ w'.cell? ⟨w.heap.size + 1 + 1 + os0.size + os1.size + os3.size + os4.size + os5.size + os6.size, 1, none⟩ = some (.slice A6_1 x.Counts.length c6_1) ∧ w'.cell? ⟨w.heap.size, 0, none⟩ = some (.slice A0 x.Stacks.Nodes.length c0) ∧ w'.cell? ⟨w.heap.size, 1, none⟩ = some (.slice A1 x.Counts.length c1)) (simp [go_sem]) (first
      | (go_at_call 21; refine (toProfile_l (x := x) (Ty.up _ p_x0 (by repeat (first | with_reducible exact Gro.refl _ | with_reducible exact Gro.refl_drew _ _ _ | with_reducible exact Gro.refl_drewN _ _ _ _ | assumption | with_reducible apply Gro.more | with_reducible apply Gro.alloc | with_reducible apply Gro.drew | with_reducible apply Gro.drewN))) (Ty.up _ p_x1 (by repeat (first | with_reducible exact Gro.refl _ | with_reducible exact Gro.refl_drew _ _ _ | with_reducible exact Gro.refl_drewN _ _ _ _ | assumption | with_reducible apply Gro.more | with_reducible apply Gro.alloc | with_reducible apply Gro.drew | with_reducible apply Gro.drewN))) (by omega)).mono ?_; rintro e w1 ⟨A10_0, c10_0, A10_1, c10_1, rfl, hF10, os10, d10, rfl⟩)
      | (go_at_call 24; refine (eqProfile_l (x := x) (y := x) (Ty.up _ (rdProfile hF6.read).1 (by repeat (first | with_reducible exact Gro.refl _ | with_reducible exact Gro.refl_drew _ _ _ | with_reducible exact Gro.refl_drewN _ _ _ _ | assumption | with_reducible apply Gro.more | with_reducible apply Gro.alloc | with_reducible apply Gro.drew | with_reducible apply Gro.drewN))) (Ty.up _ (rdProfile hF6.read).2 (by repeat (first | with_reducible exact Gro.refl _ | with_reducible exact Gro.refl_drew _ _ _ | with_reducible exact Gro.refl_drewN _ _ _ _ | assumption | with_reducible apply Gro.more | with_reducible apply Gro.alloc | with_reducible apply Gro.drew | with_reducible apply Gro.drewN))) (Ty.up _ (rdProfile hF10.read).1 (by repeat (first | with_reducible exact Gro.refl _ | with_reducible exact Gro.refl_drew _ _ _ | with_reducible exact Gro.refl_drewN _ _ _ _ | assumption | with_reducible apply Gro.more | with_reducible apply Gro.alloc | with_reducible apply Gro.drew | with_reducible apply Gro.drewN))) (Ty.up _ (rdProfile hF10.read).2 (by repeat (first | with_reducible exact Gro.refl _ | with_reducible exact Gro.refl_drew _ _ _ | with_reducible exact Gro.refl_drewN _ _ _ _ | assumption | with_reducible apply Gro.more | with_reducible apply Gro.alloc | with_reducible apply Gro.drew | with_reducible apply Gro.drewN)))).mono ?_; rintro e w1 ⟨rfl, os11, d11, rfl⟩))
  go_wp2_with (fail)
  go_region_held3 (fun w' => w'.cell? ⟨w.heap.size + 1 + 1 + os0.size + os1.size + os3.size + os4.size + os5.size + os6.size + 1 + os7.size, 0, none⟩ = some (.slice A7_0 y.Stacks.Nodes.length c7_0) ∧ w'.cell? ⟨w.heap.size + 1 + 1 + os0.size + os1.size + os3.size + os4.size + os5.size + os6.size + 1 + os7.size, 1, none⟩ = some (.slice A7_1 y.Counts.length c7_1) ∧ w'.cell? ⟨w.heap.size + 1, 0, none⟩ = some (.slice A2 y.Stacks.Nodes.length c2) ∧ w'.cell? ⟨w.heap.size + 1, 1, none⟩ = some (.slice A3 y.Counts.length c3)) (simp [go_sem]) (first
      | (go_at_call 21; refine (toProfile_l (x := y) (Ty.up _ p_y0 (by repeat (first | with_reducible exact Gro.refl _ | with_reducible exact Gro.refl_drew _ _ _ | with_reducible exact Gro.refl_drewN _ _ _ _ | assumption | with_reducible apply Gro.more | with_reducible apply Gro.alloc | with_reducible apply Gro.drew | with_reducible apply Gro.drewN))) (Ty.up _ p_y1 (by repeat (first | with_reducible exact Gro.refl _ | with_reducible exact Gro.refl_drew _ _ _ | with_reducible exact Gro.refl_drewN _ _ _ _ | assumption | with_reducible apply Gro.more | with_reducible apply Gro.alloc | with_reducible apply Gro.drew | with_reducible apply Gro.drewN))) (by omega)).mono ?_; rintro e w1 ⟨A12_0, c12_0, A12_1, c12_1, rfl, hF12, os12, d12, rfl⟩)
      | (go_at_call 24; refine (eqProfile_l (x := y) (y := y) (Ty.up _ (rdProfile hF7.read).1 (by repeat (first | with_reducible exact Gro.refl _ | with_reducible exact Gro.refl_drew _ _ _ | with_reducible exact Gro.refl_drewN _ _ _ _ | assumption | with_reducible apply Gro.more | with_reducible apply Gro.alloc | with_reducible apply Gro.drew | with_reducible apply Gro.drewN))) (Ty.up _ (rdProfile hF7.read).2 (by repeat (first | with_reducible exact Gro.refl _ | with_reducible exact Gro.refl_drew _ _ _ | with_reducible exact Gro.refl_drewN _ _ _ _ | assumption | with_reducible apply Gro.more | with_reducible apply Gro.alloc | with_reducible apply Gro.drew | with_reducible apply Gro.drewN))) (Ty.up _ (rdProfile hF12.read).1 (by repeat (first | with_reducible exact Gro.refl _ | with_reducible exact Gro.refl_drew _ _ _ | with_reducible exact Gro.refl_drewN _ _ _ _ | assumption | with_reducible apply Gro.more | with_reducible apply Gro.alloc | with_reducible apply Gro.drew | with_reducible apply Gro.drewN))) (Ty.up _ (rdProfile hF12.read).2 (by repeat (first | with_reducible exact Gro.refl _ | with_reducible exact Gro.refl_drew _ _ _ | with_reducible exact Gro.refl_drewN _ _ _ _ | assumption | with_reducible apply Gro.more | with_reducible apply Gro.alloc | with_reducible apply Gro.drew | with_reducible apply Gro.drewN)))).mono ?_; rintro e w1 ⟨rfl, os13, d13, rfl⟩))
  go_wp2_with (fail)
  obtain ⟨S_w0, hO_w0, hN_w0, hL_w0⟩ := hR5
  have hU_w0 := Ty.ltO _ hO_w0
  obtain ⟨S_x_x, hO_x_x, hN_x_x, hL_x_x⟩ := hF6
  have hU_x_x := Ty.ltO _ hO_x_x
  obtain ⟨S_x_y, hO_x_y, hN_x_y, hL_x_y⟩ := hF7
  have hU_x_y := Ty.ltO _ hO_x_y
  obtain ⟨S_g0, hO_g0, hN_g0, hL_g0⟩ := hR8
  have hU_g0 := Ty.ltO _ hO_g0
  go_wp2_with (fail)
  refine (markProfile_l (x := x) (Ty.groO _ hO_x_x (by repeat (first | with_reducible exact Gro.refl _ | with_reducible exact Gro.refl_drew _ _ _ | with_reducible exact Gro.refl_drewN _ _ _ _ | assumption | with_reducible apply Gro.more | with_reducible apply Gro.alloc | with_reducible apply Gro.drew | with_reducible apply Gro.drewN))) hN_x_x (by omega) (by omega)).mono ?_
  rintro e w14 ⟨rfl, hM_x_x, hS14⟩
  have hO_w0_14 := keepOnly _ hO_w0 hS14 (by repeat (first | with_reducible exact Gro.refl _ | with_reducible exact Gro.refl_drew _ _ _ | with_reducible exact Gro.refl_drewN _ _ _ _ | assumption | with_reducible apply Gro.more | with_reducible apply Gro.alloc | with_reducible apply Gro.drew | with_reducible apply Gro.drewN)) (fun b hb hm => by have q1 := hU_w0 b hb; have q2 := hL_x_x b hm; simp at q1 q2; omega)
  have hO_x_y_14 := keepOnly _ hO_x_y hS14 (by repeat (first | with_reducible exact Gro.refl _ | with_reducible exact Gro.refl_drew _ _ _ | with_reducible exact Gro.refl_drewN _ _ _ _ | assumption | with_reducible apply Gro.more | with_reducible apply Gro.alloc | with_reducible apply Gro.drew | with_reducible apply Gro.drewN)) (fun b hb hm => by have q1 := hL_x_y b hb; have q2 := hU_x_x b hm; simp at q1 q2; omega)
  have hO_g0_14 := keepOnly _ hO_g0 hS14 (by repeat (first | with_reducible exact Gro.refl _ | with_reducible exact Gro.refl_drew _ _ _ | with_reducible exact Gro.refl_drewN _ _ _ _ | assumption | with_reducible apply Gro.more | with_reducible apply Gro.alloc | with_reducible apply Gro.drew | with_reducible apply Gro.drewN)) (fun b hb hm => by have q1 := hL_g0 b hb; have q2 := hU_x_x b hm; simp at q1 q2; omega)
  have hc14_x_0 : w14.cell? ⟨w.heap.size, 0, none⟩ = some (.slice A0 x.Stacks.Nodes.length c0) := (hS14.cell (by simp <;> omega) (fun hm => by have q1 := hL_x_x _ hm; simp at q1 <;> omega) 0).trans (by simp [go_sem])
  have hc14_x_1 : w14.cell? ⟨w.heap.size, 1, none⟩ = some (.slice A1 x.Counts.length c1) := (hS14.cell (by simp <;> omega) (fun hm => by have q1 := hL_x_x _ hm; simp at q1 <;> omega) 1).trans (by simp [go_sem])
  have hcb_x : w.heap.size < w14.heap.size := Nat.lt_of_lt_of_le (by simp <;> omega) hS14.size
  have hc14_y_0 : w14.cell? ⟨w.heap.size + 1, 0, none⟩ = some (.slice A2 y.Stacks.Nodes.length c2) := (hS14.cell (by simp <;> omega) (fun hm => by have q1 := hL_x_x _ hm; simp at q1 <;> omega) 0).trans (by simp [go_sem])
  have hc14_y_1 : w14.cell? ⟨w.heap.size + 1, 1, none⟩ = some (.slice A3 y.Counts.length c3) := (hS14.cell (by simp <;> omega) (fun hm => by have q1 := hL_x_x _ hm; simp at q1 <;> omega) 1).trans (by simp [go_sem])
  have hcb_y : w.heap.size + 1 < w14.heap.size := Nat.lt_of_lt_of_le (by simp <;> omega) hS14.size
  have hc14_x_y_0 : w14.cell? ⟨w.heap.size + 1 + 1 + os0.size + os1.size + os3.size + os4.size + os5.size + os6.size + 1 + os7.size, 0, none⟩ = some (.slice A7_0 y.Stacks.Nodes.length c7_0) := (hS14.cell (by simp <;> omega) (fun hm => by have q1 := hU_x_x _ hm; simp at q1 <;> omega) 0).trans (by simp [go_sem])
  have hc14_x_y_1 : w14.cell? ⟨w.heap.size + 1 + 1 + os0.size + os1.size + os3.size + os4.size + os5.size + os6.size + 1 + os7.size, 1, none⟩ = some (.slice A7_1 y.Counts.length c7_1) := (hS14.cell (by simp <;> omega) (fun hm => by have q1 := hU_x_x _ hm; simp at q1 <;> omega) 1).trans (by simp [go_sem])
  have hcb_x_y : w.heap.size + 1 + 1 + os0.size + os1.size + os3.size + os4.size + os5.size + os6.size + 1 + os7.size < w14.heap.size := Nat.lt_of_lt_of_le (by simp <;> omega) hS14.size
  obtain ⟨os14, d14, rfl⟩ := hS14.gro (W0 := w) (by repeat (first | with_reducible exact Gro.refl _ | with_reducible exact Gro.refl_drew _ _ _ | with_reducible exact Gro.refl_drewN _ _ _ _ | assumption | with_reducible apply Gro.more | with_reducible apply Gro.alloc | with_reducible apply Gro.drew | with_reducible apply Gro.drewN)) (fun b hb => by have q1 := hL_x_x b hb; simp at q1; omega)
  clear hS14
  simp at hcb_x
  simp at hcb_y
  simp at hcb_x_y
  go_wp2_with (fail)
  refine (markProfile_l (x := y) (Ty.groO _ hO_x_y_14 (by repeat (first | with_reducible exact Gro.refl _ | with_reducible exact Gro.refl_drew _ _ _ | with_reducible exact Gro.refl_drewN _ _ _ _ | assumption | with_reducible apply Gro.more | with_reducible apply Gro.alloc | with_reducible apply Gro.drew | with_reducible apply Gro.drewN))) hN_x_y (by omega) (by omega)).mono ?_
  rintro e w15 ⟨rfl, hM_x_y, hS15⟩
  have hO_w0_14_15 := keepOnly _ hO_w0_14 hS15 (by repeat (first | with_reducible exact Gro.refl _ | with_reducible exact Gro.refl_drew _ _ _ | with_reducible exact Gro.refl_drewN _ _ _ _ | assumption | with_reducible apply Gro.more | with_reducible apply Gro.alloc | with_reducible apply Gro.drew | with_reducible apply Gro.drewN)) (fun b hb hm => by have q1 := hU_w0 b hb; have q2 := hL_x_y b hm; simp at q1 q2; omega)
  have hO_g0_14_15 := keepOnly _ hO_g0_14 hS15 (by repeat (first | with_reducible exact Gro.refl _ | with_reducible exact Gro.refl_drew _ _ _ | with_reducible exact Gro.refl_drewN _ _ _ _ | assumption | with_reducible apply Gro.more | with_reducible apply Gro.alloc | with_reducible apply Gro.drew | with_reducible apply Gro.drewN)) (fun b hb hm => by have q1 := hL_g0 b hb; have q2 := hU_x_y b hm; simp at q1 q2; omega)
  have hc15_x_0 : w15.cell? ⟨w.heap.size, 0, none⟩ = some (.slice A0 x.Stacks.Nodes.length c0) := (hS15.cell (by simp <;> omega) (fun hm => by have q1 := hL_x_y _ hm; simp at q1 <;> omega) 0).trans (by first | exact hc14_x_0 | exact gro_keeps hc14_x_0 _ _ | simp [go_sem, hc14_x_0, hcb_x])
  have hc15_x_1 : w15.cell? ⟨w.heap.size, 1, none⟩ = some (.slice A1 x.Counts.length c1) := (hS15.cell (by simp <;> omega) (fun hm => by have q1 := hL_x_y _ hm; simp at q1 <;> omega) 1).trans (by first | exact hc14_x_1 | exact gro_keeps hc14_x_1 _ _ | simp [go_sem, hc14_x_1, hcb_x])
  replace hcb_x : w.heap.size < w15.heap.size := Nat.lt_of_lt_of_le (by simp <;> omega) hS15.size
  have hc15_y_0 : w15.cell? ⟨w.heap.size + 1, 0, none⟩ = some (.slice A2 y.Stacks.Nodes.length c2) := (hS15.cell (by simp <;> omega) (fun hm => by have q1 := hL_x_y _ hm; simp at q1 <;> omega) 0).trans (by first | exact hc14_y_0 | exact gro_keeps hc14_y_0 _ _ | simp [go_sem, hc14_y_0, hcb_y])
  have hc15_y_1 : w15.cell? ⟨w.heap.size + 1, 1, none⟩ = some (.slice A3 y.Counts.length c3) := (hS15.cell (by simp <;> omega) (fun hm => by have q1 := hL_x_y _ hm; simp at q1 <;> omega) 1).trans (by first | exact hc14_y_1 | exact gro_keeps hc14_y_1 _ _ | simp [go_sem, hc14_y_1, hcb_y])
  replace hcb_y : w.heap.size + 1 < w15.heap.size := Nat.lt_of_lt_of_le (by simp <;> omega) hS15.size
  clear hc14_x_0 hc14_x_1 hc14_y_0 hc14_y_1 hc14_x_y_0 hc14_x_y_1
  obtain ⟨os15, d15, rfl⟩ := hS15.gro (W0 := w) (by repeat (first | with_reducible exact Gro.refl _ | with_reducible exact Gro.refl_drew _ _ _ | with_reducible exact Gro.refl_drewN _ _ _ _ | assumption | with_reducible apply Gro.more | with_reducible apply Gro.alloc | with_reducible apply Gro.drew | with_reducible apply Gro.drewN)) (fun b hb => by have q1 := hL_x_y b hb; simp at q1; omega)
  clear hS15
  simp at hcb_x
  simp at hcb_y
  go_wp2_with (fail)
  refine (eqDeltaS_l (xs := p) (ys := p) (Ty.up _ (Ty.read _ hO_g0_14_15) (by repeat (first | with_reducible exact Gro.refl _ | with_reducible exact Gro.refl_drew _ _ _ | with_reducible exact Gro.refl_drewN _ _ _ _ | assumption | with_reducible apply Gro.more | with_reducible apply Gro.alloc | with_reducible apply Gro.drew | with_reducible apply Gro.drewN))) (Ty.up _ (Ty.read _ hO_w0_14_15) (by repeat (first | with_reducible exact Gro.refl _ | with_reducible exact Gro.refl_drew _ _ _ | with_reducible exact Gro.refl_drewN _ _ _ _ | assumption | with_reducible apply Gro.more | with_reducible apply Gro.alloc | with_reducible apply Gro.drew | with_reducible apply Gro.drewN)))).mono ?_
  rintro e w1 ⟨rfl, os16, d16, rfl⟩
  go_wp2_with (fail)
  refine (markDeltaS_l (xs := p) (Ty.groO _ hO_g0_14_15 (by repeat (first | with_reducible exact Gro.refl _ | with_reducible exact Gro.refl_drew _ _ _ | with_reducible exact Gro.refl_drewN _ _ _ _ | assumption | with_reducible apply Gro.more | with_reducible apply Gro.alloc | with_reducible apply Gro.drew | with_reducible apply Gro.drewN))) hN_g0 (by omega) (by omega)).mono ?_
  rintro e w17 ⟨rfl, hM_g0, hS17⟩
  have hO_w0_14_15_17 := keepOnly _ hO_w0_14_15 hS17 (by repeat (first | with_reducible exact Gro.refl _ | with_reducible exact Gro.refl_drew _ _ _ | with_reducible exact Gro.refl_drewN _ _ _ _ | assumption | with_reducible apply Gro.more | with_reducible apply Gro.alloc | with_reducible apply Gro.drew | with_reducible apply Gro.drewN)) (fun b hb hm => by have q1 := hU_w0 b hb; have q2 := hL_g0 b hm; simp at q1 q2; omega)
  have hc17_x_0 : w17.cell? ⟨w.heap.size, 0, none⟩ = some (.slice A0 x.Stacks.Nodes.length c0) := (hS17.cell (by simp <;> omega) (fun hm => by have q1 := hL_g0 _ hm; simp at q1 <;> omega) 0).trans (by first | exact hc15_x_0 | exact gro_keeps hc15_x_0 _ _ | simp [go_sem, hc15_x_0, hcb_x])
  have hc17_x_1 : w17.cell? ⟨w.heap.size, 1, none⟩ = some (.slice A1 x.Counts.length c1) := (hS17.cell (by simp <;> omega) (fun hm => by have q1 := hL_g0 _ hm; simp at q1 <;> omega) 1).trans (by first | exact hc15_x_1 | exact gro_keeps hc15_x_1 _ _ | simp [go_sem, hc15_x_1, hcb_x])
  replace hcb_x : w.heap.size < w17.heap.size := Nat.lt_of_lt_of_le (by simp <;> omega) hS17.size
  have hc17_y_0 : w17.cell? ⟨w.heap.size + 1, 0, none⟩ = some (.slice A2 y.Stacks.Nodes.length c2) := (hS17.cell (by simp <;> omega) (fun hm => by have q1 := hL_g0 _ hm; simp at q1 <;> omega) 0).trans (by first | exact hc15_y_0 | exact gro_keeps hc15_y_0 _ _ | simp [go_sem, hc15_y_0, hcb_y])
  have hc17_y_1 : w17.cell? ⟨w.heap.size + 1, 1, none⟩ = some (.slice A3 y.Counts.length c3) := (hS17.cell (by simp <;> omega) (fun hm => by have q1 := hL_g0 _ hm; simp at q1 <;> omega) 1).trans (by first | exact hc15_y_1 | exact gro_keeps hc15_y_1 _ _ | simp [go_sem, hc15_y_1, hcb_y])
  replace hcb_y : w.heap.size + 1 < w17.heap.size := Nat.lt_of_lt_of_le (by simp <;> omega) hS17.size
  clear hc15_x_0 hc15_x_1 hc15_y_0 hc15_y_1
  obtain ⟨os17, d17, rfl⟩ := hS17.gro (W0 := w) (by repeat (first | with_reducible exact Gro.refl _ | with_reducible exact Gro.refl_drew _ _ _ | with_reducible exact Gro.refl_drewN _ _ _ _ | assumption | with_reducible apply Gro.more | with_reducible apply Gro.alloc | with_reducible apply Gro.drew | with_reducible apply Gro.drewN)) (fun b hb => by have q1 := hL_g0 b hb; simp at q1; omega)
  clear hS17
  simp at hcb_x
  simp at hcb_y
  have mkread_g0 := Ty.read _ hM_g0
  go_wp2_with (fail)
  refine (heldDeltaS_l (xs := p) (Ty.up _ (mkread_g0) (by repeat (first | with_reducible exact Gro.refl _ | with_reducible exact Gro.refl_drew _ _ _ | with_reducible exact Gro.refl_drewN _ _ _ _ | assumption | with_reducible apply Gro.more | with_reducible apply Gro.alloc | with_reducible apply Gro.drew | with_reducible apply Gro.drewN))) (by omega) (by omega)).mono ?_
  rintro e w1 ⟨rfl, os18, d18, rfl⟩
  go_wp2_with (fail)
  go_region_held3 (fun w' => w'.cell? ⟨w.heap.size, 0, none⟩ = some (.slice A0 x.Stacks.Nodes.length c0) ∧ w'.cell? ⟨w.heap.size, 1, none⟩ = some (.slice A1 x.Counts.length c1) ∧ w'.cell? ⟨w.heap.size + 1, 0, none⟩ = some (.slice A2 y.Stacks.Nodes.length c2) ∧ w'.cell? ⟨w.heap.size + 1, 1, none⟩ = some (.slice A3 y.Counts.length c3)) ((repeat' apply And.intro) <;> (first | ((repeat (first | assumption | with_reducible refine gro_keeps ?_ _ _ | with_reducible refine alloc_keeps ?_ _ | with_reducible refine drew_keeps ?_)); done) | (simp [go_sem]; done))) (first
    | (go_at_call 21; (with_reducible refine (toProfile_l (x := x) (Ty.up _ p_x0 (by repeat (first | with_reducible exact Gro.refl _ | with_reducible exact Gro.refl_drew _ _ _ | with_reducible exact Gro.refl_drewN _ _ _ _ | assumption | with_reducible apply Gro.more | with_reducible apply Gro.alloc | with_reducible apply Gro.drew | with_reducible apply Gro.drewN))) (Ty.up _ p_x1 (by repeat (first | with_reducible exact Gro.refl _ | with_reducible exact Gro.refl_drew _ _ _ | with_reducible exact Gro.refl_drewN _ _ _ _ | assumption | with_reducible apply Gro.more | with_reducible apply Gro.alloc | with_reducible apply Gro.drew | with_reducible apply Gro.drewN))) (by omega)).mono ?_); rintro e w1 ⟨A19_0, c19_0, A19_1, c19_1, rfl, hF19, os19, d19, rfl⟩)
    | (go_at_call 21; (with_reducible refine (toProfile_l (x := y) (Ty.up _ p_y0 (by repeat (first | with_reducible exact Gro.refl _ | with_reducible exact Gro.refl_drew _ _ _ | with_reducible exact Gro.refl_drewN _ _ _ _ | assumption | with_reducible apply Gro.more | with_reducible apply Gro.alloc | with_reducible apply Gro.drew | with_reducible apply Gro.drewN))) (Ty.up _ p_y1 (by repeat (first | with_reducible exact Gro.refl _ | with_reducible exact Gro.refl_drew _ _ _ | with_reducible exact Gro.refl_drewN _ _ _ _ | assumption | with_reducible apply Gro.more | with_reducible apply Gro.alloc | with_reducible apply Gro.drew | with_reducible apply Gro.drewN))) (by omega)).mono ?_); rintro e w1 ⟨A20_0, c20_0, A20_1, c20_1, rfl, hF20, os20, d20, rfl⟩)
    | (go_at_call 36; (with_reducible refine (diff_i (p := x) (q := y) (Ty.up _ (rdProfile hF19.read).1 (by repeat (first | with_reducible exact Gro.refl _ | with_reducible exact Gro.refl_drew _ _ _ | with_reducible exact Gro.refl_drewN _ _ _ _ | assumption | with_reducible apply Gro.more | with_reducible apply Gro.alloc | with_reducible apply Gro.drew | with_reducible apply Gro.drewN))) (Ty.up _ (rdProfile hF19.read).2 (by repeat (first | with_reducible exact Gro.refl _ | with_reducible exact Gro.refl_drew _ _ _ | with_reducible exact Gro.refl_drewN _ _ _ _ | assumption | with_reducible apply Gro.more | with_reducible apply Gro.alloc | with_reducible apply Gro.drew | with_reducible apply Gro.drewN))) (by omega) (Ty.up _ (rdProfile hF20.read).1 (by repeat (first | with_reducible exact Gro.refl _ | with_reducible exact Gro.refl_drew _ _ _ | with_reducible exact Gro.refl_drewN _ _ _ _ | assumption | with_reducible apply Gro.more | with_reducible apply Gro.alloc | with_reducible apply Gro.drew | with_reducible apply Gro.drewN))) (Ty.up _ (rdProfile hF20.read).2 (by repeat (first | with_reducible exact Gro.refl _ | with_reducible exact Gro.refl_drew _ _ _ | with_reducible exact Gro.refl_drewN _ _ _ _ | assumption | with_reducible apply Gro.more | with_reducible apply Gro.alloc | with_reducible apply Gro.drew | with_reducible apply Gro.drewN))) (by omega)).mono ?_); rw [hp.out]; rintro e w1 ⟨B21_0, e21_0, rfl, hR21, os21, d21, rfl⟩))
  go_wp2_with (fail)
  refine (eqDeltaS_l (xs := p) (ys := p) (Ty.up _ hR21.read (by repeat (first | with_reducible exact Gro.refl _ | with_reducible exact Gro.refl_drew _ _ _ | with_reducible exact Gro.refl_drewN _ _ _ _ | assumption | with_reducible apply Gro.more | with_reducible apply Gro.alloc | with_reducible apply Gro.drew | with_reducible apply Gro.drewN))) (Ty.up _ (Ty.read _ hO_w0_14_15_17) (by repeat (first | with_reducible exact Gro.refl _ | with_reducible exact Gro.refl_drew _ _ _ | with_reducible exact Gro.refl_drewN _ _ _ _ | assumption | with_reducible apply Gro.more | with_reducible apply Gro.alloc | with_reducible apply Gro.drew | with_reducible apply Gro.drewN)))).mono ?_
  rintro e w1 ⟨rfl, os22, d22, rfl⟩
  go_wp2_with (fail)
  refine (heldDeltaS_l (xs := p) (Ty.up _ (mkread_g0) (by repeat (first | with_reducible exact Gro.refl _ | with_reducible exact Gro.refl_drew _ _ _ | with_reducible exact Gro.refl_drewN _ _ _ _ | assumption | with_reducible apply Gro.more | with_reducible apply Gro.alloc | with_reducible apply Gro.drew | with_reducible apply Gro.drewN))) (by omega) (by omega)).mono ?_
  rintro e w1 ⟨rfl, os23, d23, rfl⟩
  go_wp2
  go_ret
  exact ⟨rfl, (by repeat (first | with_reducible exact Gro.refl _ | with_reducible exact Gro.refl_drew _ _ _ | with_reducible exact Gro.refl_drewN _ _ _ _ | assumption | with_reducible apply Gro.more | with_reducible apply Gro.alloc | with_reducible apply Gro.drew | with_reducible apply Gro.drewN))⟩

theorem door_met (os : Os) (args : Array Value) : laidMetH Tryd.prog Rows.fnExactDiffProfilesRow.laid ((World.doorLaid Tryd.prog 400 os).forCall (fun _ _ => 0) ⟨#[], args, []⟩).memory :=
  laidMetH_of_parts3 (fuel := 8) (laidMet_of_run' 8 (by kernel_rfl) (by kernel_rfl)) (by kernel_rfl) (by kernel_rfl)
set_option maxRecDepth 100000 in
theorem lifted (os : Os) (started : os.Started) (H : Type) (enc : TypeId × Value → H) :
    ReturnsInHanded {} Tryd.checked os 8 .any (fun w args => (Rows.fnExactDiffProfilesSpec.pre enc Tryd.prog Tryd.f8 Rows.fnExactDiffProfilesRow.domain false w args ∧ laidMetH Tryd.prog Rows.fnExactDiffProfilesRow.laid w) ∧ sizedMet enc Tryd.prog Tryd.f8 (OpenSpec.ofChange Rows.fnExactDiffProfilesSpec) false w args) (Rows.fnExactDiffProfilesSpec.post enc Tryd.prog Tryd.f8 false true false false) := by
  refine returnsInHanded_of_change_and (C := Tryd.checked) (X := fun w _ => laidMetH Tryd.prog Rows.fnExactDiffProfilesRow.laid w) (fun _ _ _ hh h => h.of_heap hh) own started (by kernel_rfl) Tryd.func8
    (ChangeSpec.witness_shaped (enc := enc) (C := Tryd.checked) (os := os) (X := fun w _ => laidMetH Tryd.prog Rows.fnExactDiffProfilesRow.laid w) false (World.doorLaid Tryd.prog 400 os) #[.agg #[.slice none 0 0, .slice none 0 0], .agg #[.slice none 0 0, .slice none 0 0]] 8 rfl (World.shaped_of_RefB (by kernel_rfl) (by kernel_rfl)) (by kernel_rfl) (by kernel_rfl) (by kernel_rfl) (door_met os _)) ?_
  intro W base args ds gs before hval0 hW _ _ hL _
  have hval : ∀ (j : Nat) t v, Tryd.f8.params[j]? = some t → args[j]? = some v → Value.okWide Tryd.prog W .any base t v := hval0
  have hW' := hW
  obtain ⟨p, q, hA0, hV, rfl, hfz, hnd⟩ := hW
  have hA : DataW.TrodAll enc Tryd.prog W 0 (fun _ => true) true Tryd.f8.params.toList args.toList ds p := hA0
  rw [Tryd.params8] at hA hval
  obtain ⟨v0, vs0, d0, ds0, p0, q0, hargs, rfl, rfl, h0, r0⟩ := trodAll_cons hA
  obtain ⟨v1, vs1, d1, ds1, p1, q1, rfl, rfl, rfl, h1, r1⟩ := trodAll_cons r0
  obtain ⟨rfl, rfl, rfl⟩ := trodAll_nil r1
  obtain rfl : args = #[v0, v1] := by cases args; simp_all
  obtain ⟨rfl, rfl⟩ := trodVars_none hV
  have k0 := h0
  have lt0 : ∀ x ∈ p0, x.block < W.heap.size := by obtain ⟨m, hm⟩ := k0; exact DataW.trod_lt m _ _ _ hm
  obtain ⟨cs0, rfl⟩ := arg_agg Tryd.underlying38 (hval 0 38 v0 rfl rfl)
  obtain ⟨a0, w0⟩ := arg_open tProfile_opens h0
  have k1 := h1
  have lt1 : ∀ x ∈ p1, x.block < W.heap.size := by obtain ⟨m, hm⟩ := k1; exact DataW.trod_lt m _ _ _ hm
  obtain ⟨cs1, rfl⟩ := arg_agg Tryd.underlying38 (hval 1 38 v1 rfl rfl)
  obtain ⟨a1, w1⟩ := arg_open tProfile_opens h1
  clear hA0 hval0
  refine (walk W cs0 a0 w0 cs1 a1 w1).mono fun e W' ⟨he, hgro⟩ => ?_
  subst he
  have bel := hgro.below
  exact ⟨_, rfl, _, _, _, [], _, [], hW', trodAll_mk1 (shut_bool Tryd.underlying4 _), (trodAll_cons_mk (Below.trod laidOut (by kernel_rfl) (of_decide_eq_true (by kernel_rfl)) k0 bel lt0) (trodAll_cons_mk (Below.trod laidOut (by kernel_rfl) (of_decide_eq_true (by kernel_rfl)) k1 bel lt1) trodAll_mk0)), rfl, bel.frame _, fun h => by cases h⟩
theorem over : Rows.fnExactDiffProfilesRow.holds Tryd.pinned (OpenSpec.ofChange Rows.fnExactDiffProfilesSpec) :=
  OpenClaim.holds_of_wide 8 Tryd.f8 rfl rfl rfl rfl rfl rfl rfl ⟨rfl, rfl, rfl, rfl, rfl⟩ rfl rfl rfl rfl rfl (by kernel_rfl) Tryd.func8 (by kernel_rfl)
    (of_decide_eq_true (by kernel_rfl)) (by unfold Func.isWrapper; first | (rw [if_pos (by decide +kernel)]; kernel_rfl) | (rw [if_neg (by decide +kernel)]; exact ⟨rfl, rfl⟩))
    (fun os started H enc _ => lifted os started H enc)
/-- THE STATEMENT: the tied card -/
theorem proved : Rows.FnExactDiffProfilesCardSaid :=
  Claim7.holds_tied_plain_at .later [] [.data, .data, .data] true (true, "54120b9bef3c3c8c25bcfb6c7db8f79644f2e0607041845cc316ea18f93f2beb") false
    over (fun _ h => by cases h) (by kernel_rfl) (fun _ h => by cases h) fnExactDiffProfiles_row_tie rfl ⟨rfl, rfl⟩ (by kernel_rfl) rfl
    (fun f fn hf hfn => by
      obtain rfl : f = 8 := Option.some.inj ((show Tryd.prog.funcNamed "loop.example/g03314/laws.FnExactDiffProfiles" = some 8 by kernel_rfl).symm.trans hf) |>.symm
      obtain rfl : fn = Tryd.f8 := (Option.some.inj (Tryd.func8.symm.trans hfn)).symm
      exact ⟨by kernel_rfl, fun j t ht => by
        rw [Tryd.params8] at ht
        have hm : t ∈ [38, 38] := by simpa using Array.mem_of_getElem? ht
        have hall : ([38, 38].all fun u => !Tryd.prog.wantsStandIn u) = true := by kernel_rfl
        exact (show Tryd.prog.wantsStandIn t = false by simpa using List.all_eq_true.1 hall t hm)⟩)
    (by kernel_rfl)
#print axioms proved
end Go.Proofs.YtemeenondbdioaaDoor.fnExactDiffProfiles
