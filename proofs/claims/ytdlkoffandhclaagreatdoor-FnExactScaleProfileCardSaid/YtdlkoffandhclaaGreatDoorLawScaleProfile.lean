/-
  The law FnExactScaleProfile answers true for every input: the program and the reference compute the same; the arguments stay; the result is of its own memory. No condition.
-/
import Derived.Test.YtdlkoffandhclaaGreatDoorRows
import Derived.Test.YtdlkoffandhclaaGreatDoorOpen
import Derived.Test.YtdlkoffandhclaaGreatDoorScale
import Derived.Test.YtdlkoffandhclaaGreatDoorTie
import Derived.Test.YtdlkoffandhclaaGreatDoorCards
import Derived.LaidMore
import Derived.Stop.Joined
import Derived.SevenTiedAt
import Derived.Test.YtdlkoffandhclaaGreatDoorShape
import Derived.Lay
import Derived.ShutString
import Derived.Deep.RegionHeld3
set_option linter.unusedVariables false
set_option linter.unusedSimpArgs false
namespace Go.Proofs.YtdlkoffandhclaaGreatDoor.fnExactScaleProfile
open Go.ChangeShapes Go.WideShapes Go.ChangeAt Go.RowKit
open Go.ChangeMaps (open_string shut_string)
theorem own : ownKnob Tryz.prog.godebug = none := by kernel_rfl
theorem laidOut : laidOutB Tryz.prog = true := by kernel_rfl
theorem rdProfile {w : World} {B : Nat} {x : DProfile} {A0 : Option Addr} {c0 : Nat} {A1 : Option Addr} {c1 : Nat} (h : tProfile.R w B [.slice A0 x.Stacks.Nodes.length c0, .slice A1 x.Counts.length c1] x) : (tNode.sl 92).R w B [.slice A0 x.Stacks.Nodes.length c0] x.Stacks.Nodes ∧ (intT.sl 3).R w B [.slice A1 x.Counts.length c1] x.Counts := by
  obtain ⟨A0', c0', A1', c1', hc, f0, f1⟩ := tProfile_R h
  simp only [List.cons.injEq, Value.slice.injEq, true_and, and_true] at hc
  obtain ⟨⟨rfl, rfl⟩, ⟨rfl, rfl⟩⟩ := hc
  exact ⟨f0, f1⟩
set_option maxRecDepth 100000 in
set_option maxHeartbeats 4000000 in
theorem walk (w : World) (cs_x : Array Value) (x : DProfile) (h_x : tProfile.R w w.heap.size cs_x.toList x) (n : Int) (hb1_n : -9223372036854775808 ≤ n) (hb2_n : n ≤ 9223372036854775807) {m : Int} (hm : w.cell? ⟨0, 0, none⟩ = some (.int .i64 m)) :
    Calls Tryz.prog 3 #[.agg cs_x, .int .i64 n] w fun e w' => e = .returned (.bool true) ∧ Gro w w' := by
  have HM := Lib.hid hm
  clear hm
  obtain ⟨A0, c0, A1, c1, hcs_x, p_x0, p_x1⟩ := tProfile_R h_x
  obtain rfl := Array.toList_inj.1 (show cs_x.toList = (#[.slice A0 x.Stacks.Nodes.length c0, .slice A1 x.Counts.length c1] : Array Value).toList from hcs_x)
  clear h_x hcs_x
  obtain ⟨n0, hn0⟩ : ∃ n, szProfile x = n := ⟨_, rfl⟩
  by_cases hz0 : (n0 : Int) ≤ 1048576
  case neg =>
    have e0 : szRes (1048576) (szProfile x) = -1 := by rw [hn0]; exact if_neg (by omega)
    clear hn0
    go_enter Tryz.func3, Tryz.ntmps3
    go_wp2_with (fail)
    refine (szProfile_l (x := x) (Ty.up _ p_x0 (by repeat (first | with_reducible exact Gro.refl _ | with_reducible exact Gro.refl_drew _ _ _ | with_reducible exact Gro.refl_drewN _ _ _ _ | assumption | with_reducible apply Gro.more | with_reducible apply Gro.alloc | with_reducible apply Gro.drew | with_reducible apply Gro.drewN))) (Ty.up _ p_x1 (by repeat (first | with_reducible exact Gro.refl _ | with_reducible exact Gro.refl_drew _ _ _ | with_reducible exact Gro.refl_drewN _ _ _ _ | assumption | with_reducible apply Gro.more | with_reducible apply Gro.alloc | with_reducible apply Gro.drew | with_reducible apply Gro.drewN))) (by omega) (by omega)).mono ?_
    rintro e w1 ⟨rfl, os0, d0, rfl⟩
    go_wp2
    go_ret
    exact ⟨rfl, (by repeat (first | with_reducible exact Gro.refl _ | with_reducible exact Gro.refl_drew _ _ _ | with_reducible exact Gro.refl_drewN _ _ _ _ | assumption | with_reducible apply Gro.more | with_reducible apply Gro.alloc | with_reducible apply Gro.drew | with_reducible apply Gro.drewN))⟩
  have e0 : szRes (1048576) (szProfile x) = 1048576 - (n0 : Int) := by rw [hn0]; exact if_pos (by omega)
  have hl_x0 : x.Stacks.Nodes.length ≤ 1048576 := by have h := hn0; unfold szProfile szStacks at h; have := szL_len szNode x.Stacks.Nodes; omega
  have hl_x1 : x.Counts.length ≤ 1048576 := by have h := hn0; unfold szProfile szStacks at h; omega
  have hs_x : szProfile x ≤ 1048576 := by omega
  have hcnt_x : cntProfile x ≤ 8388608 := by unfold cntProfile cntStacks cntNodeS; omega
  have hfr_x := frSum_small hs_x
  have HN0 := Lib.hid hn0
  clear hn0
  obtain ⟨p, hp, hpb0, hpb1, hpb2⟩ : ∃ p, Hid (scaleP x n = p) ∧ p.1.Stacks.Nodes.length ≤ 122500000000 ∧ p.1.Counts.length ≤ 122500000000 ∧ cntProfile p.1 ≤ 612500000000 := ⟨_, Lib.hid rfl, (scaleP_len n hs_x).1, (scaleP_len n hs_x).2, by have := scaleP_len n hs_x; unfold cntProfile cntStacks cntNodeS; omega⟩
  go_enter Tryz.func3, Tryz.ntmps3
  go_wp2_with (fail)
  refine (szProfile_l (x := x) (Ty.up _ p_x0 (by repeat (first | with_reducible exact Gro.refl _ | with_reducible exact Gro.refl_drew _ _ _ | with_reducible exact Gro.refl_drewN _ _ _ _ | assumption | with_reducible apply Gro.more | with_reducible apply Gro.alloc | with_reducible apply Gro.drew | with_reducible apply Gro.drewN))) (Ty.up _ p_x1 (by repeat (first | with_reducible exact Gro.refl _ | with_reducible exact Gro.refl_drew _ _ _ | with_reducible exact Gro.refl_drewN _ _ _ _ | assumption | with_reducible apply Gro.more | with_reducible apply Gro.alloc | with_reducible apply Gro.drew | with_reducible apply Gro.drewN))) (by omega) (by omega)).mono ?_
  rintro e w1 ⟨rfl, os0, d0, rfl⟩
  go_wp2_with (fail)
  refine (toProfile_l (x := x) (Ty.up _ p_x0 (by repeat (first | with_reducible exact Gro.refl _ | with_reducible exact Gro.refl_drew _ _ _ | with_reducible exact Gro.refl_drewN _ _ _ _ | assumption | with_reducible apply Gro.more | with_reducible apply Gro.alloc | with_reducible apply Gro.drew | with_reducible apply Gro.drewN))) (Ty.up _ p_x1 (by repeat (first | with_reducible exact Gro.refl _ | with_reducible exact Gro.refl_drew _ _ _ | with_reducible exact Gro.refl_drewN _ _ _ _ | assumption | with_reducible apply Gro.more | with_reducible apply Gro.alloc | with_reducible apply Gro.drew | with_reducible apply Gro.drewN))) (by omega)).mono ?_
  rintro e w1 ⟨A2_0, c2_0, A2_1, c2_1, rfl, hF2, os2, d2, rfl⟩
  go_wp2_with (fail)
  refine (scale_s (p := x) (n := n) (Ty.up _ (rdProfile hF2.read).1 (by repeat (first | with_reducible exact Gro.refl _ | with_reducible exact Gro.refl_drew _ _ _ | with_reducible exact Gro.refl_drewN _ _ _ _ | assumption | with_reducible apply Gro.more | with_reducible apply Gro.alloc | with_reducible apply Gro.drew | with_reducible apply Gro.drewN))) (Ty.up _ (rdProfile hF2.read).2 (by repeat (first | with_reducible exact Gro.refl _ | with_reducible exact Gro.refl_drew _ _ _ | with_reducible exact Gro.refl_drewN _ _ _ _ | assumption | with_reducible apply Gro.more | with_reducible apply Gro.alloc | with_reducible apply Gro.drew | with_reducible apply Gro.drewN))) (by omega) (by omega)).mono ?_
  rw [hp.out]
  rintro e w1 ⟨B3_0, e3_0, B3_1, e3_1, rfl, hR3, os3, d3, rfl⟩
  go_wp2_with (fail)
  refine (toProfile_l (x := x) (Ty.up _ p_x0 (by repeat (first | with_reducible exact Gro.refl _ | with_reducible exact Gro.refl_drew _ _ _ | with_reducible exact Gro.refl_drewN _ _ _ _ | assumption | with_reducible apply Gro.more | with_reducible apply Gro.alloc | with_reducible apply Gro.drew | with_reducible apply Gro.drewN))) (Ty.up _ p_x1 (by repeat (first | with_reducible exact Gro.refl _ | with_reducible exact Gro.refl_drew _ _ _ | with_reducible exact Gro.refl_drewN _ _ _ _ | assumption | with_reducible apply Gro.more | with_reducible apply Gro.alloc | with_reducible apply Gro.drew | with_reducible apply Gro.drewN))) (by omega)).mono ?_
  rintro e w1 ⟨A4_0, c4_0, A4_1, c4_1, rfl, hF4, os4, d4, rfl⟩
  go_wp2_with (fail)
  refine (scale_i (p := x) (n := n) (Ty.up _ (rdProfile hF4.read).1 (by repeat (first | with_reducible exact Gro.refl _ | with_reducible exact Gro.refl_drew _ _ _ | with_reducible exact Gro.refl_drewN _ _ _ _ | assumption | with_reducible apply Gro.more | with_reducible apply Gro.alloc | with_reducible apply Gro.drew | with_reducible apply Gro.drewN))) (Ty.up _ (rdProfile hF4.read).2 (by repeat (first | with_reducible exact Gro.refl _ | with_reducible exact Gro.refl_drew _ _ _ | with_reducible exact Gro.refl_drewN _ _ _ _ | assumption | with_reducible apply Gro.more | with_reducible apply Gro.alloc | with_reducible apply Gro.drew | with_reducible apply Gro.drewN))) (by omega) (by omega) (Gro.cell (by repeat (first | with_reducible exact Gro.refl _ | with_reducible exact Gro.refl_drew _ _ _ | with_reducible exact Gro.refl_drewN _ _ _ _ | assumption | with_reducible apply Gro.more | with_reducible apply Gro.alloc | with_reducible apply Gro.drew | with_reducible apply Gro.drewN)) HM.out)).mono ?_
  rw [hp.out]
  rintro e w1 ⟨B5_0, e5_0, B5_1, e5_1, rfl, hR5, os5, d5, rfl⟩
  go_wp2_with (fail)
  refine (eqProfile_l (x := p.1) (y := p.1) (Ty.up _ (rdProfile hR5.read).1 (by repeat (first | with_reducible exact Gro.refl _ | with_reducible exact Gro.refl_drew _ _ _ | with_reducible exact Gro.refl_drewN _ _ _ _ | assumption | with_reducible apply Gro.more | with_reducible apply Gro.alloc | with_reducible apply Gro.drew | with_reducible apply Gro.drewN))) (Ty.up _ (rdProfile hR5.read).2 (by repeat (first | with_reducible exact Gro.refl _ | with_reducible exact Gro.refl_drew _ _ _ | with_reducible exact Gro.refl_drewN _ _ _ _ | assumption | with_reducible apply Gro.more | with_reducible apply Gro.alloc | with_reducible apply Gro.drew | with_reducible apply Gro.drewN))) (Ty.up _ (rdProfile hR3.read).1 (by repeat (first | with_reducible exact Gro.refl _ | with_reducible exact Gro.refl_drew _ _ _ | with_reducible exact Gro.refl_drewN _ _ _ _ | assumption | with_reducible apply Gro.more | with_reducible apply Gro.alloc | with_reducible apply Gro.drew | with_reducible apply Gro.drewN))) (Ty.up _ (rdProfile hR3.read).2 (by repeat (first | with_reducible exact Gro.refl _ | with_reducible exact Gro.refl_drew _ _ _ | with_reducible exact Gro.refl_drewN _ _ _ _ | assumption | with_reducible apply Gro.more | with_reducible apply Gro.alloc | with_reducible apply Gro.drew | with_reducible apply Gro.drewN)))).mono ?_
  rintro e w1 ⟨rfl, os6, d6, rfl⟩
  go_wp2_with (fail)
  go_region_held3 (fun w' => w'.cell? ⟨w.heap.size + 1 + os0.size + os2.size + os3.size + 1 + os4.size, 0, none⟩ = some (.slice A4_0 x.Stacks.Nodes.length c4_0) ∧ w'.cell? ⟨w.heap.size + 1 + os0.size + os2.size + os3.size + 1 + os4.size, 1, none⟩ = some (.slice A4_1 x.Counts.length c4_1) ∧ w'.cell? ⟨w.heap.size, 0, none⟩ = some (.slice A0 x.Stacks.Nodes.length c0) ∧ w'.cell? ⟨w.heap.size, 1, none⟩ = some (.slice A1 x.Counts.length c1)) (simp [go_sem]) (first
      | (go_at_call 10; refine (toProfile_l (x := x) (Ty.up _ p_x0 (by repeat (first | with_reducible exact Gro.refl _ | with_reducible exact Gro.refl_drew _ _ _ | with_reducible exact Gro.refl_drewN _ _ _ _ | assumption | with_reducible apply Gro.more | with_reducible apply Gro.alloc | with_reducible apply Gro.drew | with_reducible apply Gro.drewN))) (Ty.up _ p_x1 (by repeat (first | with_reducible exact Gro.refl _ | with_reducible exact Gro.refl_drew _ _ _ | with_reducible exact Gro.refl_drewN _ _ _ _ | assumption | with_reducible apply Gro.more | with_reducible apply Gro.alloc | with_reducible apply Gro.drew | with_reducible apply Gro.drewN))) (by omega)).mono ?_; rintro e w1 ⟨A7_0, c7_0, A7_1, c7_1, rfl, hF7, os7, d7, rfl⟩)
      | (go_at_call 12; refine (eqProfile_l (x := x) (y := x) (Ty.up _ (rdProfile hF4.read).1 (by repeat (first | with_reducible exact Gro.refl _ | with_reducible exact Gro.refl_drew _ _ _ | with_reducible exact Gro.refl_drewN _ _ _ _ | assumption | with_reducible apply Gro.more | with_reducible apply Gro.alloc | with_reducible apply Gro.drew | with_reducible apply Gro.drewN))) (Ty.up _ (rdProfile hF4.read).2 (by repeat (first | with_reducible exact Gro.refl _ | with_reducible exact Gro.refl_drew _ _ _ | with_reducible exact Gro.refl_drewN _ _ _ _ | assumption | with_reducible apply Gro.more | with_reducible apply Gro.alloc | with_reducible apply Gro.drew | with_reducible apply Gro.drewN))) (Ty.up _ (rdProfile hF7.read).1 (by repeat (first | with_reducible exact Gro.refl _ | with_reducible exact Gro.refl_drew _ _ _ | with_reducible exact Gro.refl_drewN _ _ _ _ | assumption | with_reducible apply Gro.more | with_reducible apply Gro.alloc | with_reducible apply Gro.drew | with_reducible apply Gro.drewN))) (Ty.up _ (rdProfile hF7.read).2 (by repeat (first | with_reducible exact Gro.refl _ | with_reducible exact Gro.refl_drew _ _ _ | with_reducible exact Gro.refl_drewN _ _ _ _ | assumption | with_reducible apply Gro.more | with_reducible apply Gro.alloc | with_reducible apply Gro.drew | with_reducible apply Gro.drewN)))).mono ?_; rintro e w1 ⟨rfl, os8, d8, rfl⟩))
  go_wp2_with (fail)
  obtain ⟨S_w0, hO_w0, hN_w0, hL_w0⟩ := hR3
  have hU_w0 := Ty.ltO _ hO_w0
  obtain ⟨S_x_x, hO_x_x, hN_x_x, hL_x_x⟩ := hF4
  have hU_x_x := Ty.ltO _ hO_x_x
  obtain ⟨S_g0, hO_g0, hN_g0, hL_g0⟩ := hR5
  have hU_g0 := Ty.ltO _ hO_g0
  go_wp2_with (fail)
  refine (markProfile_l (x := x) (Ty.groO _ hO_x_x (by repeat (first | with_reducible exact Gro.refl _ | with_reducible exact Gro.refl_drew _ _ _ | with_reducible exact Gro.refl_drewN _ _ _ _ | assumption | with_reducible apply Gro.more | with_reducible apply Gro.alloc | with_reducible apply Gro.drew | with_reducible apply Gro.drewN))) hN_x_x (by omega) (by omega)).mono ?_
  rintro e w9 ⟨rfl, hM_x_x, hS9⟩
  have hO_w0_9 := keepOnly _ hO_w0 hS9 (by repeat (first | with_reducible exact Gro.refl _ | with_reducible exact Gro.refl_drew _ _ _ | with_reducible exact Gro.refl_drewN _ _ _ _ | assumption | with_reducible apply Gro.more | with_reducible apply Gro.alloc | with_reducible apply Gro.drew | with_reducible apply Gro.drewN)) (fun b hb hm => by have q1 := hU_w0 b hb; have q2 := hL_x_x b hm; simp at q1 q2; omega)
  have hO_g0_9 := keepOnly _ hO_g0 hS9 (by repeat (first | with_reducible exact Gro.refl _ | with_reducible exact Gro.refl_drew _ _ _ | with_reducible exact Gro.refl_drewN _ _ _ _ | assumption | with_reducible apply Gro.more | with_reducible apply Gro.alloc | with_reducible apply Gro.drew | with_reducible apply Gro.drewN)) (fun b hb hm => by have q1 := hL_g0 b hb; have q2 := hU_x_x b hm; simp at q1 q2; omega)
  have hc9_x_0 : w9.cell? ⟨w.heap.size, 0, none⟩ = some (.slice A0 x.Stacks.Nodes.length c0) := (hS9.cell (by simp <;> omega) (fun hm => by have q1 := hL_x_x _ hm; simp at q1 <;> omega) 0).trans (by simp [go_sem])
  have hc9_x_1 : w9.cell? ⟨w.heap.size, 1, none⟩ = some (.slice A1 x.Counts.length c1) := (hS9.cell (by simp <;> omega) (fun hm => by have q1 := hL_x_x _ hm; simp at q1 <;> omega) 1).trans (by simp [go_sem])
  have hcb_x : w.heap.size < w9.heap.size := Nat.lt_of_lt_of_le (by simp <;> omega) hS9.size
  have hc9_w0_0 : w9.cell? ⟨w.heap.size + 1 + os0.size + os2.size + os3.size, 0, none⟩ = some (.slice B3_0 p.1.Stacks.Nodes.length e3_0) := (hS9.cell (by simp <;> omega) (fun hm => by have q1 := hL_x_x _ hm; simp at q1 <;> omega) 0).trans (by simp [go_sem])
  have hc9_w0_1 : w9.cell? ⟨w.heap.size + 1 + os0.size + os2.size + os3.size, 1, none⟩ = some (.slice B3_1 p.1.Counts.length e3_1) := (hS9.cell (by simp <;> omega) (fun hm => by have q1 := hL_x_x _ hm; simp at q1 <;> omega) 1).trans (by simp [go_sem])
  have hcb_w0 : w.heap.size + 1 + os0.size + os2.size + os3.size < w9.heap.size := Nat.lt_of_lt_of_le (by simp <;> omega) hS9.size
  have hc9_g0_0 : w9.cell? ⟨w.heap.size + 1 + os0.size + os2.size + os3.size + 1 + os4.size + 1 + os5.size, 0, none⟩ = some (.slice B5_0 p.1.Stacks.Nodes.length e5_0) := (hS9.cell (by simp <;> omega) (fun hm => by have q1 := hU_x_x _ hm; simp at q1 <;> omega) 0).trans (by simp [go_sem])
  have hc9_g0_1 : w9.cell? ⟨w.heap.size + 1 + os0.size + os2.size + os3.size + 1 + os4.size + 1 + os5.size, 1, none⟩ = some (.slice B5_1 p.1.Counts.length e5_1) := (hS9.cell (by simp <;> omega) (fun hm => by have q1 := hU_x_x _ hm; simp at q1 <;> omega) 1).trans (by simp [go_sem])
  have hcb_g0 : w.heap.size + 1 + os0.size + os2.size + os3.size + 1 + os4.size + 1 + os5.size < w9.heap.size := Nat.lt_of_lt_of_le (by simp <;> omega) hS9.size
  obtain ⟨os9, d9, rfl⟩ := hS9.gro (W0 := w) (by repeat (first | with_reducible exact Gro.refl _ | with_reducible exact Gro.refl_drew _ _ _ | with_reducible exact Gro.refl_drewN _ _ _ _ | assumption | with_reducible apply Gro.more | with_reducible apply Gro.alloc | with_reducible apply Gro.drew | with_reducible apply Gro.drewN)) (fun b hb => by have q1 := hL_x_x b hb; simp at q1; omega)
  clear hS9
  simp at hcb_x
  simp at hcb_w0
  simp at hcb_g0
  go_wp2_with (fail)
  refine (eqProfile_l (x := p.1) (y := p.1) (Ty.up _ (rdProfile (Ty.read _ hO_g0_9)).1 (by repeat (first | with_reducible exact Gro.refl _ | with_reducible exact Gro.refl_drew _ _ _ | with_reducible exact Gro.refl_drewN _ _ _ _ | assumption | with_reducible apply Gro.more | with_reducible apply Gro.alloc | with_reducible apply Gro.drew | with_reducible apply Gro.drewN))) (Ty.up _ (rdProfile (Ty.read _ hO_g0_9)).2 (by repeat (first | with_reducible exact Gro.refl _ | with_reducible exact Gro.refl_drew _ _ _ | with_reducible exact Gro.refl_drewN _ _ _ _ | assumption | with_reducible apply Gro.more | with_reducible apply Gro.alloc | with_reducible apply Gro.drew | with_reducible apply Gro.drewN))) (Ty.up _ (rdProfile (Ty.read _ hO_w0_9)).1 (by repeat (first | with_reducible exact Gro.refl _ | with_reducible exact Gro.refl_drew _ _ _ | with_reducible exact Gro.refl_drewN _ _ _ _ | assumption | with_reducible apply Gro.more | with_reducible apply Gro.alloc | with_reducible apply Gro.drew | with_reducible apply Gro.drewN))) (Ty.up _ (rdProfile (Ty.read _ hO_w0_9)).2 (by repeat (first | with_reducible exact Gro.refl _ | with_reducible exact Gro.refl_drew _ _ _ | with_reducible exact Gro.refl_drewN _ _ _ _ | assumption | with_reducible apply Gro.more | with_reducible apply Gro.alloc | with_reducible apply Gro.drew | with_reducible apply Gro.drewN)))).mono ?_
  rintro e w1 ⟨rfl, os10, d10, rfl⟩
  go_wp2_with (fail)
  refine (markProfile_l (x := p.1) (Ty.groO _ hO_g0_9 (by repeat (first | with_reducible exact Gro.refl _ | with_reducible exact Gro.refl_drew _ _ _ | with_reducible exact Gro.refl_drewN _ _ _ _ | assumption | with_reducible apply Gro.more | with_reducible apply Gro.alloc | with_reducible apply Gro.drew | with_reducible apply Gro.drewN))) hN_g0 (by omega) (by omega)).mono ?_
  rintro e w11 ⟨rfl, hM_g0, hS11⟩
  have hO_w0_9_11 := keepOnly _ hO_w0_9 hS11 (by repeat (first | with_reducible exact Gro.refl _ | with_reducible exact Gro.refl_drew _ _ _ | with_reducible exact Gro.refl_drewN _ _ _ _ | assumption | with_reducible apply Gro.more | with_reducible apply Gro.alloc | with_reducible apply Gro.drew | with_reducible apply Gro.drewN)) (fun b hb hm => by have q1 := hU_w0 b hb; have q2 := hL_g0 b hm; simp at q1 q2; omega)
  have hc11_x_0 : w11.cell? ⟨w.heap.size, 0, none⟩ = some (.slice A0 x.Stacks.Nodes.length c0) := (hS11.cell (by simp <;> omega) (fun hm => by have q1 := hL_g0 _ hm; simp at q1 <;> omega) 0).trans (by first | exact hc9_x_0 | exact gro_keeps hc9_x_0 _ _ | simp [go_sem, hc9_x_0, hcb_x])
  have hc11_x_1 : w11.cell? ⟨w.heap.size, 1, none⟩ = some (.slice A1 x.Counts.length c1) := (hS11.cell (by simp <;> omega) (fun hm => by have q1 := hL_g0 _ hm; simp at q1 <;> omega) 1).trans (by first | exact hc9_x_1 | exact gro_keeps hc9_x_1 _ _ | simp [go_sem, hc9_x_1, hcb_x])
  replace hcb_x : w.heap.size < w11.heap.size := Nat.lt_of_lt_of_le (by simp <;> omega) hS11.size
  have hc11_w0_0 : w11.cell? ⟨w.heap.size + 1 + os0.size + os2.size + os3.size, 0, none⟩ = some (.slice B3_0 p.1.Stacks.Nodes.length e3_0) := (hS11.cell (by simp <;> omega) (fun hm => by have q1 := hL_g0 _ hm; simp at q1 <;> omega) 0).trans (by first | exact hc9_w0_0 | exact gro_keeps hc9_w0_0 _ _ | simp [go_sem, hc9_w0_0, hcb_w0])
  have hc11_w0_1 : w11.cell? ⟨w.heap.size + 1 + os0.size + os2.size + os3.size, 1, none⟩ = some (.slice B3_1 p.1.Counts.length e3_1) := (hS11.cell (by simp <;> omega) (fun hm => by have q1 := hL_g0 _ hm; simp at q1 <;> omega) 1).trans (by first | exact hc9_w0_1 | exact gro_keeps hc9_w0_1 _ _ | simp [go_sem, hc9_w0_1, hcb_w0])
  replace hcb_w0 : w.heap.size + 1 + os0.size + os2.size + os3.size < w11.heap.size := Nat.lt_of_lt_of_le (by simp <;> omega) hS11.size
  have hc11_g0_0 : w11.cell? ⟨w.heap.size + 1 + os0.size + os2.size + os3.size + 1 + os4.size + 1 + os5.size, 0, none⟩ = some (.slice B5_0 p.1.Stacks.Nodes.length e5_0) := (hS11.cell (by simp <;> omega) (fun hm => by have q1 := hU_g0 _ hm; simp at q1 <;> omega) 0).trans (by first | exact hc9_g0_0 | exact gro_keeps hc9_g0_0 _ _ | simp [go_sem, hc9_g0_0, hcb_g0])
  have hc11_g0_1 : w11.cell? ⟨w.heap.size + 1 + os0.size + os2.size + os3.size + 1 + os4.size + 1 + os5.size, 1, none⟩ = some (.slice B5_1 p.1.Counts.length e5_1) := (hS11.cell (by simp <;> omega) (fun hm => by have q1 := hU_g0 _ hm; simp at q1 <;> omega) 1).trans (by first | exact hc9_g0_1 | exact gro_keeps hc9_g0_1 _ _ | simp [go_sem, hc9_g0_1, hcb_g0])
  replace hcb_g0 : w.heap.size + 1 + os0.size + os2.size + os3.size + 1 + os4.size + 1 + os5.size < w11.heap.size := Nat.lt_of_lt_of_le (by simp <;> omega) hS11.size
  clear hc9_x_0 hc9_x_1 hc9_w0_0 hc9_w0_1 hc9_g0_0 hc9_g0_1
  obtain ⟨os11, d11, rfl⟩ := hS11.gro (W0 := w) (by repeat (first | with_reducible exact Gro.refl _ | with_reducible exact Gro.refl_drew _ _ _ | with_reducible exact Gro.refl_drewN _ _ _ _ | assumption | with_reducible apply Gro.more | with_reducible apply Gro.alloc | with_reducible apply Gro.drew | with_reducible apply Gro.drewN)) (fun b hb => by have q1 := hL_g0 b hb; simp at q1; omega)
  clear hS11
  simp at hcb_x
  simp at hcb_w0
  simp at hcb_g0
  go_wp2_with (fail)
  refine (heldProfile_l (x := p.1) (Ty.up _ (mkProfile_read hM_g0).1 (by repeat (first | with_reducible exact Gro.refl _ | with_reducible exact Gro.refl_drew _ _ _ | with_reducible exact Gro.refl_drewN _ _ _ _ | assumption | with_reducible apply Gro.more | with_reducible apply Gro.alloc | with_reducible apply Gro.drew | with_reducible apply Gro.drewN))) (Ty.up _ (mkProfile_read hM_g0).2 (by repeat (first | with_reducible exact Gro.refl _ | with_reducible exact Gro.refl_drew _ _ _ | with_reducible exact Gro.refl_drewN _ _ _ _ | assumption | with_reducible apply Gro.more | with_reducible apply Gro.alloc | with_reducible apply Gro.drew | with_reducible apply Gro.drewN))) (by omega) (by omega)).mono ?_
  rintro e w1 ⟨rfl, os12, d12, rfl⟩
  go_wp2_with (fail)
  refine (toProfile_l (x := x) (Ty.up _ p_x0 (by repeat (first | with_reducible exact Gro.refl _ | with_reducible exact Gro.refl_drew _ _ _ | with_reducible exact Gro.refl_drewN _ _ _ _ | assumption | with_reducible apply Gro.more | with_reducible apply Gro.alloc | with_reducible apply Gro.drew | with_reducible apply Gro.drewN))) (Ty.up _ p_x1 (by repeat (first | with_reducible exact Gro.refl _ | with_reducible exact Gro.refl_drew _ _ _ | with_reducible exact Gro.refl_drewN _ _ _ _ | assumption | with_reducible apply Gro.more | with_reducible apply Gro.alloc | with_reducible apply Gro.drew | with_reducible apply Gro.drewN))) (by omega)).mono ?_
  rintro e w1 ⟨A13_0, c13_0, A13_1, c13_1, rfl, hF13, os13, d13, rfl⟩
  go_wp2_with (fail)
  refine (scale_i (p := x) (n := n) (Ty.up _ (rdProfile hF13.read).1 (by repeat (first | with_reducible exact Gro.refl _ | with_reducible exact Gro.refl_drew _ _ _ | with_reducible exact Gro.refl_drewN _ _ _ _ | assumption | with_reducible apply Gro.more | with_reducible apply Gro.alloc | with_reducible apply Gro.drew | with_reducible apply Gro.drewN))) (Ty.up _ (rdProfile hF13.read).2 (by repeat (first | with_reducible exact Gro.refl _ | with_reducible exact Gro.refl_drew _ _ _ | with_reducible exact Gro.refl_drewN _ _ _ _ | assumption | with_reducible apply Gro.more | with_reducible apply Gro.alloc | with_reducible apply Gro.drew | with_reducible apply Gro.drewN))) (by omega) (by omega) (Gro.cell (by repeat (first | with_reducible exact Gro.refl _ | with_reducible exact Gro.refl_drew _ _ _ | with_reducible exact Gro.refl_drewN _ _ _ _ | assumption | with_reducible apply Gro.more | with_reducible apply Gro.alloc | with_reducible apply Gro.drew | with_reducible apply Gro.drewN)) HM.out)).mono ?_
  rw [hp.out]
  rintro e w1 ⟨B14_0, e14_0, B14_1, e14_1, rfl, hR14, os14, d14, rfl⟩
  go_wp2_with (fail)
  refine (eqProfile_l (x := p.1) (y := p.1) (Ty.up _ (rdProfile hR14.read).1 (by repeat (first | with_reducible exact Gro.refl _ | with_reducible exact Gro.refl_drew _ _ _ | with_reducible exact Gro.refl_drewN _ _ _ _ | assumption | with_reducible apply Gro.more | with_reducible apply Gro.alloc | with_reducible apply Gro.drew | with_reducible apply Gro.drewN))) (Ty.up _ (rdProfile hR14.read).2 (by repeat (first | with_reducible exact Gro.refl _ | with_reducible exact Gro.refl_drew _ _ _ | with_reducible exact Gro.refl_drewN _ _ _ _ | assumption | with_reducible apply Gro.more | with_reducible apply Gro.alloc | with_reducible apply Gro.drew | with_reducible apply Gro.drewN))) (Ty.up _ (rdProfile (Ty.read _ hO_w0_9_11)).1 (by repeat (first | with_reducible exact Gro.refl _ | with_reducible exact Gro.refl_drew _ _ _ | with_reducible exact Gro.refl_drewN _ _ _ _ | assumption | with_reducible apply Gro.more | with_reducible apply Gro.alloc | with_reducible apply Gro.drew | with_reducible apply Gro.drewN))) (Ty.up _ (rdProfile (Ty.read _ hO_w0_9_11)).2 (by repeat (first | with_reducible exact Gro.refl _ | with_reducible exact Gro.refl_drew _ _ _ | with_reducible exact Gro.refl_drewN _ _ _ _ | assumption | with_reducible apply Gro.more | with_reducible apply Gro.alloc | with_reducible apply Gro.drew | with_reducible apply Gro.drewN)))).mono ?_
  rintro e w1 ⟨rfl, os15, d15, rfl⟩
  go_wp2_with (fail)
  refine (heldProfile_l (x := p.1) (Ty.up _ (mkProfile_read hM_g0).1 (by repeat (first | with_reducible exact Gro.refl _ | with_reducible exact Gro.refl_drew _ _ _ | with_reducible exact Gro.refl_drewN _ _ _ _ | assumption | with_reducible apply Gro.more | with_reducible apply Gro.alloc | with_reducible apply Gro.drew | with_reducible apply Gro.drewN))) (Ty.up _ (mkProfile_read hM_g0).2 (by repeat (first | with_reducible exact Gro.refl _ | with_reducible exact Gro.refl_drew _ _ _ | with_reducible exact Gro.refl_drewN _ _ _ _ | assumption | with_reducible apply Gro.more | with_reducible apply Gro.alloc | with_reducible apply Gro.drew | with_reducible apply Gro.drewN))) (by omega) (by omega)).mono ?_
  rintro e w1 ⟨rfl, os16, d16, rfl⟩
  go_wp2
  go_ret
  exact ⟨rfl, (by repeat (first | with_reducible exact Gro.refl _ | with_reducible exact Gro.refl_drew _ _ _ | with_reducible exact Gro.refl_drewN _ _ _ _ | assumption | with_reducible apply Gro.more | with_reducible apply Gro.alloc | with_reducible apply Gro.drew | with_reducible apply Gro.drewN))⟩

set_option maxRecDepth 100000 in
theorem lifted (os : Os) (started : os.Started) (H : Type) (enc : TypeId × Value → H) :
    ReturnsInHanded {} Tryz.checked os 3 .any (fun w args => (Rows.fnExactScaleProfileSpec.pre enc Tryz.prog Tryz.f3 Rows.fnExactScaleProfileRow.domain false w args ∧ laidMetH Tryz.prog Rows.fnExactScaleProfileRow.laid w) ∧ sizedMet enc Tryz.prog Tryz.f3 (OpenSpec.ofChange Rows.fnExactScaleProfileSpec) false w args) (Rows.fnExactScaleProfileSpec.post enc Tryz.prog Tryz.f3 false true false false) := by
  refine returns_and_shaped (C := Tryz.checked) (X := fun w _ => laidMetH Tryz.prog Rows.fnExactScaleProfileRow.laid w) (fun _ _ _ hh h => h.of_heap hh) own started (by kernel_rfl) Tryz.func3
    (ChangeSpec.witness_shaped (enc := enc) (C := Tryz.checked) (os := os) (X := fun w _ => laidMetH Tryz.prog Rows.fnExactScaleProfileRow.laid w) false (World.laidAll Tryz.prog os Rows.fnExactScaleProfileRow.laid) #[.agg #[.slice none 0 0, .slice none 0 0], .int .i64 0] 8 (World.laidAll_os _ _ _) (World.shaped_of_ZipB (by kernel_rfl) (by kernel_rfl)) (by kernel_rfl) (by kernel_rfl) (by kernel_rfl) (by rw [MakeChecks.laidMetH_plain _ _ _ (by kernel_rfl)]; exact laidMet_laidAll _ (by kernel_rfl) (by kernel_rfl))) ?_
  intro W base args ds gs before hval0 hW _ _ hL hSH _
  obtain ⟨mlen, hmlen⟩ := max_len hSH
  have hval : ∀ (j : Nat) t v, Tryz.f3.params[j]? = some t → args[j]? = some v → Value.okWide Tryz.prog W .any base t v := hval0
  have hW' := hW
  obtain ⟨p, q, hA0, hV, rfl, hfz, hnd⟩ := hW
  have hA : DataW.TrodAll enc Tryz.prog W 0 (fun _ => true) true Tryz.f3.params.toList args.toList ds p := hA0
  rw [Tryz.params3] at hA hval
  obtain ⟨v0, vs0, d0, ds0, p0, q0, hargs, rfl, rfl, h0, r0⟩ := trodAll_cons hA
  obtain ⟨v1, vs1, d1, ds1, p1, q1, rfl, rfl, rfl, h1, r1⟩ := trodAll_cons r0
  obtain ⟨rfl, rfl, rfl⟩ := trodAll_nil r1
  obtain rfl : args = #[v0, v1] := by cases args; simp_all
  obtain ⟨rfl, rfl⟩ := trodVars_none hV
  have k0 := h0
  have lt0 : ∀ x ∈ p0, x.block < W.heap.size := by obtain ⟨m, hm⟩ := k0; exact DataW.trod_lt m _ _ _ hm
  obtain ⟨cs0, rfl⟩ := arg_agg Tryz.underlying27 (hval 0 27 v0 rfl rfl)
  obtain ⟨a0, w0⟩ := arg_open tProfile_opens h0
  have k1 := h1
  have lt1 : ∀ x ∈ p1, x.block < W.heap.size := by obtain ⟨m, hm⟩ := k1; exact DataW.trod_lt m _ _ _ hm
  obtain ⟨a1, rfl, rfl, rfl, w1⟩ := open_int Tryz.underlying3 (hval 1 3 v1 rfl rfl) h1
  clear hA0 hval0
  refine (walk W cs0 a0 w0 a1 (wf_bounds w1).1 (wf_bounds w1).2 hmlen).mono fun e W' ⟨he, hgro⟩ => ?_
  subst he
  have bel := hgro.below
  exact ⟨_, rfl, _, _, _, [], _, [], hW', trodAll_mk1 (shut_bool Tryz.underlying4 _), (trodAll_cons_mk (Below.trod laidOut (by kernel_rfl) (of_decide_eq_true (by kernel_rfl)) k0 bel lt0) (trodAll_cons_mk (Below.trod laidOut (by kernel_rfl) (of_decide_eq_true (by kernel_rfl)) k1 bel lt1) trodAll_mk0)), rfl, bel.frame _, fun h => by cases h⟩
theorem over : Rows.fnExactScaleProfileRow.holds Tryz.pinned (OpenSpec.ofChange Rows.fnExactScaleProfileSpec) :=
  OpenClaim.holds_of_wide 3 Tryz.f3 rfl rfl rfl rfl rfl rfl rfl ⟨rfl, rfl, rfl, rfl, rfl⟩ rfl rfl rfl rfl rfl (by kernel_rfl) Tryz.func3 (by kernel_rfl)
    (of_decide_eq_true (by kernel_rfl)) (by unfold Func.isWrapper; first | (rw [if_pos (by decide +kernel)]; kernel_rfl) | (rw [if_neg (by decide +kernel)]; exact ⟨rfl, rfl⟩))
    (fun os started H enc _ => lifted os started H enc)
/-- THE STATEMENT: the tied card -/
theorem proved : Rows.FnExactScaleProfileCardSaid :=
  Claim7.holds_tied_plain_at .later [] [.data, .data, .data, .data, .pinned] true (true, "223fded4ff9f1d09fa78e75d94c7dee0f8fbcb9fe27840c39f670ffa5240e8df") false
    over (fun _ h => by cases h) (by kernel_rfl) (fun _ h => by cases h) fnExactScaleProfile_row_tie rfl ⟨rfl, rfl⟩ (by kernel_rfl) rfl
    (fun f fn hf hfn => by
      obtain rfl : f = 3 := Option.some.inj ((show Tryz.prog.funcNamed "loop.example/g03314/laws.FnExactScaleProfile" = some 3 by kernel_rfl).symm.trans hf) |>.symm
      obtain rfl : fn = Tryz.f3 := (Option.some.inj (Tryz.func3.symm.trans hfn)).symm
      exact ⟨by kernel_rfl, fun j t ht => by
        rw [Tryz.params3] at ht
        have hm : t ∈ [27, 3] := by simpa using Array.mem_of_getElem? ht
        have hall : ([27, 3].all fun u => !Tryz.prog.wantsStandIn u) = true := by kernel_rfl
        exact (show Tryz.prog.wantsStandIn t = false by simpa using List.all_eq_true.1 hall t hm)⟩)
    (by kernel_rfl)
#print axioms proved
end Go.Proofs.YtdlkoffandhclaaGreatDoor.fnExactScaleProfile
