/-
  The law FnExactMergeAll answers true for every input: the program and the reference compute the same; the arguments stay; the result is of its own memory. No condition.
-/
import Derived.Test.YtfpacmfhpkcipaaGreatDoorRows
import Derived.Test.YtfpacmfhpkcipaaGreatDoorOpen
import Derived.Test.YtfpacmfhpkcipaaGreatDoorMergeAll
import Derived.Test.YtfpacmfhpkcipaaGreatDoorLsProfile
import Derived.Test.YtfpacmfhpkcipaaGreatDoorTie
import Derived.Test.YtfpacmfhpkcipaaGreatDoorCards
import Derived.LaidMore
import Derived.Stop.Joined
import Derived.SevenTiedAt
import Derived.Test.YtfpacmfhpkcipaaGreatDoorShape
import Derived.Lay
import Derived.ShutString
import Derived.Deep.RegionHeld3
set_option linter.unusedVariables false
set_option linter.unusedSimpArgs false
namespace Go.Proofs.YtfpacmfhpkcipaaGreatDoor.fnExactMergeAll
open Go.ChangeShapes Go.WideShapes Go.ChangeAt Go.RowKit
open Go.ChangeMaps (open_string shut_string)
theorem own : ownKnob Tryz.prog.godebug = none := by kernel_rfl
theorem laidOut : laidOutB Tryz.prog = true := by kernel_rfl
theorem rdProfile {w : World} {B : Nat} {x : DProfile} {A0 : Option Addr} {c0 : Nat} {A1 : Option Addr} {c1 : Nat} (h : tProfile.R w B [.slice A0 x.Stacks.Nodes.length c0, .slice A1 x.Counts.length c1] x) : (tNode.sl 101).R w B [.slice A0 x.Stacks.Nodes.length c0] x.Stacks.Nodes ∧ (intT.sl 3).R w B [.slice A1 x.Counts.length c1] x.Counts := by
  obtain ⟨A0', c0', A1', c1', hc, f0, f1⟩ := tProfile_R h
  simp only [List.cons.injEq, Value.slice.injEq, true_and, and_true] at hc
  obtain ⟨⟨rfl, rfl⟩, ⟨rfl, rfl⟩⟩ := hc
  exact ⟨f0, f1⟩
set_option maxRecDepth 100000 in
set_option maxHeartbeats 4000000 in
theorem walk (w : World) (v_l : Value) (l : List DProfile) (h_l : (tProfile.sl 33).R w w.heap.size [v_l] l) {m : Int} (hm : w.cell? ⟨0, 0, none⟩ = some (.int .i64 m)) :
    Calls Tryz.prog 6 #[v_l] w fun e w' => e = .returned (.bool true) ∧ Gro w w' := by
  have HM := Lib.hid hm
  clear hm
  obtain ⟨A0, c0, rfl, hlc_l, hcm_l⟩ := sl_at h_l
  obtain ⟨n0, hn0⟩ : ∃ n, szL szProfile l = n := ⟨_, rfl⟩
  by_cases hz0 : (n0 : Int) ≤ 1048576
  case neg =>
    have e0 : szRes (1048576) (szL szProfile l) = -1 := by rw [hn0]; exact if_neg (by omega)
    clear hn0
    go_enter Tryz.func6, Tryz.ntmps6
    go_wp2_with (fail)
    refine (szProfileS_l (xs := l) (Ty.up _ h_l (by repeat (first | with_reducible exact Gro.refl _ | with_reducible exact Gro.refl_drew _ _ _ | with_reducible exact Gro.refl_drewN _ _ _ _ | assumption | with_reducible apply Gro.more | with_reducible apply Gro.alloc | with_reducible apply Gro.drew | with_reducible apply Gro.drewN))) (by omega) (by omega)).mono ?_
    rintro e w1 ⟨rfl, os0, d0, rfl⟩
    go_wp2
    go_ret
    exact ⟨rfl, (by repeat (first | with_reducible exact Gro.refl _ | with_reducible exact Gro.refl_drew _ _ _ | with_reducible exact Gro.refl_drewN _ _ _ _ | assumption | with_reducible apply Gro.more | with_reducible apply Gro.alloc | with_reducible apply Gro.drew | with_reducible apply Gro.drewN))⟩
  have e0 : szRes (1048576) (szL szProfile l) = 1048576 - (n0 : Int) := by rw [hn0]; exact if_pos (by omega)
  have hl_l : l.length ≤ 1048576 := by have h := hn0; have := szL_len szProfile l; omega
  have hs_l : szL szProfile l ≤ 1048576 := by omega
  have hcnt_l : cntProfileS l ≤ 8388608 := by have := cntP_sz l; unfold szL at hs_l; omega
  have hsum_l : (l.map szProfile).sum ≤ 1048576 := by unfold szL at hs_l; omega
  have HN0 := Lib.hid hn0
  clear hn0
  obtain ⟨p, hp, hpb0, hpb1, hpb2⟩ : ∃ p, Hid (mergeAllP l = p) ∧ p.1.Stacks.Nodes.length ≤ 1048576 ∧ p.1.Counts.length ≤ 1048576 ∧ cntProfile p.1 ≤ 8388608 := ⟨_, Lib.hid rfl, by have := mergeAllP_len l; omega, by have := mergeAllP_len l; omega, by have := mergeAllP_len l; unfold cntProfile cntStacks cntNodeS; omega⟩
  go_enter Tryz.func6, Tryz.ntmps6
  go_wp2_with (fail)
  refine (szProfileS_l (xs := l) (Ty.up _ h_l (by repeat (first | with_reducible exact Gro.refl _ | with_reducible exact Gro.refl_drew _ _ _ | with_reducible exact Gro.refl_drewN _ _ _ _ | assumption | with_reducible apply Gro.more | with_reducible apply Gro.alloc | with_reducible apply Gro.drew | with_reducible apply Gro.drewN))) (by omega) (by omega)).mono ?_
  rintro e w1 ⟨rfl, os0, d0, rfl⟩
  go_wp2_with (fail)
  refine (toProfileS_l (xs := l) (Ty.up _ h_l (by repeat (first | with_reducible exact Gro.refl _ | with_reducible exact Gro.refl_drew _ _ _ | with_reducible exact Gro.refl_drewN _ _ _ _ | assumption | with_reducible apply Gro.more | with_reducible apply Gro.alloc | with_reducible apply Gro.drew | with_reducible apply Gro.drewN))) (by omega)).mono ?_
  rintro e w1 ⟨A2_0, c2_0, rfl, hF2, os2, d2, rfl⟩
  go_wp2_with (fail)
  refine (mergeAll_s (Ty.up _ hF2.read (by repeat (first | with_reducible exact Gro.refl _ | with_reducible exact Gro.refl_drew _ _ _ | with_reducible exact Gro.refl_drewN _ _ _ _ | assumption | with_reducible apply Gro.more | with_reducible apply Gro.alloc | with_reducible apply Gro.drew | with_reducible apply Gro.drewN))) (by omega)).mono ?_
  rw [hp.out]
  rintro e w1 ⟨B3_0, e3_0, B3_1, e3_1, rfl, hR3, os3, d3, rfl⟩
  go_wp2_with (fail)
  refine (toProfileS_l (xs := l) (Ty.up _ h_l (by repeat (first | with_reducible exact Gro.refl _ | with_reducible exact Gro.refl_drew _ _ _ | with_reducible exact Gro.refl_drewN _ _ _ _ | assumption | with_reducible apply Gro.more | with_reducible apply Gro.alloc | with_reducible apply Gro.drew | with_reducible apply Gro.drewN))) (by omega)).mono ?_
  rintro e w1 ⟨A4_0, c4_0, rfl, hF4, os4, d4, rfl⟩
  go_wp2_with (fail)
  refine (mergeAll_i (Ty.up _ hF4.read (by repeat (first | with_reducible exact Gro.refl _ | with_reducible exact Gro.refl_drew _ _ _ | with_reducible exact Gro.refl_drewN _ _ _ _ | assumption | with_reducible apply Gro.more | with_reducible apply Gro.alloc | with_reducible apply Gro.drew | with_reducible apply Gro.drewN))) (by omega) (Gro.cell (by repeat (first | with_reducible exact Gro.refl _ | with_reducible exact Gro.refl_drew _ _ _ | with_reducible exact Gro.refl_drewN _ _ _ _ | assumption | with_reducible apply Gro.more | with_reducible apply Gro.alloc | with_reducible apply Gro.drew | with_reducible apply Gro.drewN)) HM.out)).mono ?_
  rw [hp.out]
  rintro e w1 ⟨B5_0, e5_0, B5_1, e5_1, rfl, hR5, os5, d5, rfl⟩
  go_wp2_with (fail)
  refine (eqProfile_l (x := p.1) (y := p.1) (Ty.up _ (rdProfile hR5.read).1 (by repeat (first | with_reducible exact Gro.refl _ | with_reducible exact Gro.refl_drew _ _ _ | with_reducible exact Gro.refl_drewN _ _ _ _ | assumption | with_reducible apply Gro.more | with_reducible apply Gro.alloc | with_reducible apply Gro.drew | with_reducible apply Gro.drewN))) (Ty.up _ (rdProfile hR5.read).2 (by repeat (first | with_reducible exact Gro.refl _ | with_reducible exact Gro.refl_drew _ _ _ | with_reducible exact Gro.refl_drewN _ _ _ _ | assumption | with_reducible apply Gro.more | with_reducible apply Gro.alloc | with_reducible apply Gro.drew | with_reducible apply Gro.drewN))) (Ty.up _ (rdProfile hR3.read).1 (by repeat (first | with_reducible exact Gro.refl _ | with_reducible exact Gro.refl_drew _ _ _ | with_reducible exact Gro.refl_drewN _ _ _ _ | assumption | with_reducible apply Gro.more | with_reducible apply Gro.alloc | with_reducible apply Gro.drew | with_reducible apply Gro.drewN))) (Ty.up _ (rdProfile hR3.read).2 (by repeat (first | with_reducible exact Gro.refl _ | with_reducible exact Gro.refl_drew _ _ _ | with_reducible exact Gro.refl_drewN _ _ _ _ | assumption | with_reducible apply Gro.more | with_reducible apply Gro.alloc | with_reducible apply Gro.drew | with_reducible apply Gro.drewN)))).mono ?_
  rintro e w1 ⟨rfl, os6, d6, rfl⟩
  go_wp2_with (fail)
  refine (toProfileS_l (xs := l) (Ty.up _ h_l (by repeat (first | with_reducible exact Gro.refl _ | with_reducible exact Gro.refl_drew _ _ _ | with_reducible exact Gro.refl_drewN _ _ _ _ | assumption | with_reducible apply Gro.more | with_reducible apply Gro.alloc | with_reducible apply Gro.drew | with_reducible apply Gro.drewN))) (by omega)).mono ?_
  rintro e w1 ⟨A7_0, c7_0, rfl, hF7, os7, d7, rfl⟩
  go_wp2_with (fail)
  refine (eqProfileS_l (xs := l) (ys := l) (Ty.up _ hF4.read (by repeat (first | with_reducible exact Gro.refl _ | with_reducible exact Gro.refl_drew _ _ _ | with_reducible exact Gro.refl_drewN _ _ _ _ | assumption | with_reducible apply Gro.more | with_reducible apply Gro.alloc | with_reducible apply Gro.drew | with_reducible apply Gro.drewN))) (Ty.up _ hF7.read (by repeat (first | with_reducible exact Gro.refl _ | with_reducible exact Gro.refl_drew _ _ _ | with_reducible exact Gro.refl_drewN _ _ _ _ | assumption | with_reducible apply Gro.more | with_reducible apply Gro.alloc | with_reducible apply Gro.drew | with_reducible apply Gro.drewN)))).mono ?_
  rintro e w1 ⟨rfl, os8, d8, rfl⟩
  go_wp2_with (fail)
  obtain ⟨S_w0, hO_w0, hN_w0, hL_w0⟩ := hR3
  have hU_w0 := Ty.ltO _ hO_w0
  obtain ⟨S_x_l, hO_x_l, hN_x_l, hL_x_l⟩ := hF4
  have hU_x_l := Ty.ltO _ hO_x_l
  obtain ⟨S_g0, hO_g0, hN_g0, hL_g0⟩ := hR5
  have hU_g0 := Ty.ltO _ hO_g0
  go_wp2_with (fail)
  refine (markProfileS_l (xs := l) (Ty.groO _ hO_x_l (by repeat (first | with_reducible exact Gro.refl _ | with_reducible exact Gro.refl_drew _ _ _ | with_reducible exact Gro.refl_drewN _ _ _ _ | assumption | with_reducible apply Gro.more | with_reducible apply Gro.alloc | with_reducible apply Gro.drew | with_reducible apply Gro.drewN))) hN_x_l (by omega) (by omega)).mono ?_
  rintro e w9 ⟨rfl, hM_x_l, hS9⟩
  have hO_w0_9 := keepOnly _ hO_w0 hS9 (by repeat (first | with_reducible exact Gro.refl _ | with_reducible exact Gro.refl_drew _ _ _ | with_reducible exact Gro.refl_drewN _ _ _ _ | assumption | with_reducible apply Gro.more | with_reducible apply Gro.alloc | with_reducible apply Gro.drew | with_reducible apply Gro.drewN)) (fun b hb hm => by have q1 := hU_w0 b hb; have q2 := hL_x_l b hm; simp at q1 q2; omega)
  have hO_g0_9 := keepOnly _ hO_g0 hS9 (by repeat (first | with_reducible exact Gro.refl _ | with_reducible exact Gro.refl_drew _ _ _ | with_reducible exact Gro.refl_drewN _ _ _ _ | assumption | with_reducible apply Gro.more | with_reducible apply Gro.alloc | with_reducible apply Gro.drew | with_reducible apply Gro.drewN)) (fun b hb hm => by have q1 := hL_g0 b hb; have q2 := hU_x_l b hm; simp at q1 q2; omega)
  have hc9_w0_0 : w9.cell? ⟨w.heap.size + os0.size + os2.size + os3.size, 0, none⟩ = some (.slice B3_0 p.1.Stacks.Nodes.length e3_0) := (hS9.cell (by simp <;> omega) (fun hm => by have q1 := hL_x_l _ hm; simp at q1 <;> omega) 0).trans (by simp [go_sem])
  have hc9_w0_1 : w9.cell? ⟨w.heap.size + os0.size + os2.size + os3.size, 1, none⟩ = some (.slice B3_1 p.1.Counts.length e3_1) := (hS9.cell (by simp <;> omega) (fun hm => by have q1 := hL_x_l _ hm; simp at q1 <;> omega) 1).trans (by simp [go_sem])
  have hcb_w0 : w.heap.size + os0.size + os2.size + os3.size < w9.heap.size := Nat.lt_of_lt_of_le (by simp <;> omega) hS9.size
  have hc9_g0_0 : w9.cell? ⟨w.heap.size + os0.size + os2.size + os3.size + 1 + os4.size + os5.size, 0, none⟩ = some (.slice B5_0 p.1.Stacks.Nodes.length e5_0) := (hS9.cell (by simp <;> omega) (fun hm => by have q1 := hU_x_l _ hm; simp at q1 <;> omega) 0).trans (by simp [go_sem])
  have hc9_g0_1 : w9.cell? ⟨w.heap.size + os0.size + os2.size + os3.size + 1 + os4.size + os5.size, 1, none⟩ = some (.slice B5_1 p.1.Counts.length e5_1) := (hS9.cell (by simp <;> omega) (fun hm => by have q1 := hU_x_l _ hm; simp at q1 <;> omega) 1).trans (by simp [go_sem])
  have hcb_g0 : w.heap.size + os0.size + os2.size + os3.size + 1 + os4.size + os5.size < w9.heap.size := Nat.lt_of_lt_of_le (by simp <;> omega) hS9.size
  obtain ⟨os9, d9, rfl⟩ := hS9.gro (W0 := w) (by repeat (first | with_reducible exact Gro.refl _ | with_reducible exact Gro.refl_drew _ _ _ | with_reducible exact Gro.refl_drewN _ _ _ _ | assumption | with_reducible apply Gro.more | with_reducible apply Gro.alloc | with_reducible apply Gro.drew | with_reducible apply Gro.drewN)) (fun b hb => by have q1 := hL_x_l b hb; simp at q1; omega)
  clear hS9
  simp at hcb_w0
  simp at hcb_g0
  go_wp2_with (fail)
  refine (eqProfile_l (x := p.1) (y := p.1) (Ty.up _ (rdProfile (Ty.read _ hO_g0_9)).1 (by repeat (first | with_reducible exact Gro.refl _ | with_reducible exact Gro.refl_drew _ _ _ | with_reducible exact Gro.refl_drewN _ _ _ _ | assumption | with_reducible apply Gro.more | with_reducible apply Gro.alloc | with_reducible apply Gro.drew | with_reducible apply Gro.drewN))) (Ty.up _ (rdProfile (Ty.read _ hO_g0_9)).2 (by repeat (first | with_reducible exact Gro.refl _ | with_reducible exact Gro.refl_drew _ _ _ | with_reducible exact Gro.refl_drewN _ _ _ _ | assumption | with_reducible apply Gro.more | with_reducible apply Gro.alloc | with_reducible apply Gro.drew | with_reducible apply Gro.drewN))) (Ty.up _ (rdProfile (Ty.read _ hO_w0_9)).1 (by repeat (first | with_reducible exact Gro.refl _ | with_reducible exact Gro.refl_drew _ _ _ | with_reducible exact Gro.refl_drewN _ _ _ _ | assumption | with_reducible apply Gro.more | with_reducible apply Gro.alloc | with_reducible apply Gro.drew | with_reducible apply Gro.drewN))) (Ty.up _ (rdProfile (Ty.read _ hO_w0_9)).2 (by repeat (first | with_reducible exact Gro.refl _ | with_reducible exact Gro.refl_drew _ _ _ | with_reducible exact Gro.refl_drewN _ _ _ _ | assumption | with_reducible apply Gro.more | with_reducible apply Gro.alloc | with_reducible apply Gro.drew | with_reducible apply Gro.drewN)))).mono ?_
  rintro e w1 ⟨rfl, os10, d10, rfl⟩
  go_wp2_with (fail)
  refine (markProfile_l (x := p.1) (Ty.groO _ hO_g0_9 (by repeat (first | with_reducible exact Gro.refl _ | with_reducible exact Gro.refl_drew _ _ _ | with_reducible exact Gro.refl_drewN _ _ _ _ | assumption | with_reducible apply Gro.more | with_reducible apply Gro.alloc | with_reducible apply Gro.drew | with_reducible apply Gro.drewN))) hN_g0 (by omega) (by omega)).mono ?_
  rintro e w11 ⟨rfl, hM_g0, hS11⟩
  have hO_w0_9_11 := keepOnly _ hO_w0_9 hS11 (by repeat (first | with_reducible exact Gro.refl _ | with_reducible exact Gro.refl_drew _ _ _ | with_reducible exact Gro.refl_drewN _ _ _ _ | assumption | with_reducible apply Gro.more | with_reducible apply Gro.alloc | with_reducible apply Gro.drew | with_reducible apply Gro.drewN)) (fun b hb hm => by have q1 := hU_w0 b hb; have q2 := hL_g0 b hm; simp at q1 q2; omega)
  have hc11_w0_0 : w11.cell? ⟨w.heap.size + os0.size + os2.size + os3.size, 0, none⟩ = some (.slice B3_0 p.1.Stacks.Nodes.length e3_0) := (hS11.cell (by simp <;> omega) (fun hm => by have q1 := hL_g0 _ hm; simp at q1 <;> omega) 0).trans (by first | exact hc9_w0_0 | exact gro_keeps hc9_w0_0 _ _ | simp [go_sem, hc9_w0_0, hcb_w0])
  have hc11_w0_1 : w11.cell? ⟨w.heap.size + os0.size + os2.size + os3.size, 1, none⟩ = some (.slice B3_1 p.1.Counts.length e3_1) := (hS11.cell (by simp <;> omega) (fun hm => by have q1 := hL_g0 _ hm; simp at q1 <;> omega) 1).trans (by first | exact hc9_w0_1 | exact gro_keeps hc9_w0_1 _ _ | simp [go_sem, hc9_w0_1, hcb_w0])
  replace hcb_w0 : w.heap.size + os0.size + os2.size + os3.size < w11.heap.size := Nat.lt_of_lt_of_le (by simp <;> omega) hS11.size
  have hc11_g0_0 : w11.cell? ⟨w.heap.size + os0.size + os2.size + os3.size + 1 + os4.size + os5.size, 0, none⟩ = some (.slice B5_0 p.1.Stacks.Nodes.length e5_0) := (hS11.cell (by simp <;> omega) (fun hm => by have q1 := hU_g0 _ hm; simp at q1 <;> omega) 0).trans (by first | exact hc9_g0_0 | exact gro_keeps hc9_g0_0 _ _ | simp [go_sem, hc9_g0_0, hcb_g0])
  have hc11_g0_1 : w11.cell? ⟨w.heap.size + os0.size + os2.size + os3.size + 1 + os4.size + os5.size, 1, none⟩ = some (.slice B5_1 p.1.Counts.length e5_1) := (hS11.cell (by simp <;> omega) (fun hm => by have q1 := hU_g0 _ hm; simp at q1 <;> omega) 1).trans (by first | exact hc9_g0_1 | exact gro_keeps hc9_g0_1 _ _ | simp [go_sem, hc9_g0_1, hcb_g0])
  replace hcb_g0 : w.heap.size + os0.size + os2.size + os3.size + 1 + os4.size + os5.size < w11.heap.size := Nat.lt_of_lt_of_le (by simp <;> omega) hS11.size
  clear hc9_w0_0 hc9_w0_1 hc9_g0_0 hc9_g0_1
  obtain ⟨os11, d11, rfl⟩ := hS11.gro (W0 := w) (by repeat (first | with_reducible exact Gro.refl _ | with_reducible exact Gro.refl_drew _ _ _ | with_reducible exact Gro.refl_drewN _ _ _ _ | assumption | with_reducible apply Gro.more | with_reducible apply Gro.alloc | with_reducible apply Gro.drew | with_reducible apply Gro.drewN)) (fun b hb => by have q1 := hL_g0 b hb; simp at q1; omega)
  clear hS11
  simp at hcb_w0
  simp at hcb_g0
  go_wp2_with (fail)
  refine (heldProfile_l (x := p.1) (Ty.up _ (mkProfile_read hM_g0).1 (by repeat (first | with_reducible exact Gro.refl _ | with_reducible exact Gro.refl_drew _ _ _ | with_reducible exact Gro.refl_drewN _ _ _ _ | assumption | with_reducible apply Gro.more | with_reducible apply Gro.alloc | with_reducible apply Gro.drew | with_reducible apply Gro.drewN))) (Ty.up _ (mkProfile_read hM_g0).2 (by repeat (first | with_reducible exact Gro.refl _ | with_reducible exact Gro.refl_drew _ _ _ | with_reducible exact Gro.refl_drewN _ _ _ _ | assumption | with_reducible apply Gro.more | with_reducible apply Gro.alloc | with_reducible apply Gro.drew | with_reducible apply Gro.drewN))) (by omega) (by omega)).mono ?_
  rintro e w1 ⟨rfl, os12, d12, rfl⟩
  go_wp2_with (fail)
  refine (toProfileS_l (xs := l) (Ty.up _ h_l (by repeat (first | with_reducible exact Gro.refl _ | with_reducible exact Gro.refl_drew _ _ _ | with_reducible exact Gro.refl_drewN _ _ _ _ | assumption | with_reducible apply Gro.more | with_reducible apply Gro.alloc | with_reducible apply Gro.drew | with_reducible apply Gro.drewN))) (by omega)).mono ?_
  rintro e w1 ⟨A13_0, c13_0, rfl, hF13, os13, d13, rfl⟩
  go_wp2_with (fail)
  refine (mergeAll_i (Ty.up _ hF13.read (by repeat (first | with_reducible exact Gro.refl _ | with_reducible exact Gro.refl_drew _ _ _ | with_reducible exact Gro.refl_drewN _ _ _ _ | assumption | with_reducible apply Gro.more | with_reducible apply Gro.alloc | with_reducible apply Gro.drew | with_reducible apply Gro.drewN))) (by omega) (Gro.cell (by repeat (first | with_reducible exact Gro.refl _ | with_reducible exact Gro.refl_drew _ _ _ | with_reducible exact Gro.refl_drewN _ _ _ _ | assumption | with_reducible apply Gro.more | with_reducible apply Gro.alloc | with_reducible apply Gro.drew | with_reducible apply Gro.drewN)) HM.out)).mono ?_
  rw [hp.out]
  rintro e w1 ⟨B14_0, e14_0, B14_1, e14_1, rfl, hR14, os14, d14, rfl⟩
  go_wp2_with (fail)
  refine (eqProfile_l (x := p.1) (y := p.1) (Ty.up _ (rdProfile hR14.read).1 (by repeat (first | with_reducible exact Gro.refl _ | with_reducible exact Gro.refl_drew _ _ _ | with_reducible exact Gro.refl_drewN _ _ _ _ | assumption | with_reducible apply Gro.more | with_reducible apply Gro.alloc | with_reducible apply Gro.drew | with_reducible apply Gro.drewN))) (Ty.up _ (rdProfile hR14.read).2 (by repeat (first | with_reducible exact Gro.refl _ | with_reducible exact Gro.refl_drew _ _ _ | with_reducible exact Gro.refl_drewN _ _ _ _ | assumption | with_reducible apply Gro.more | with_reducible apply Gro.alloc | with_reducible apply Gro.drew | with_reducible apply Gro.drewN))) (Ty.up _ (rdProfile (Ty.read _ hO_w0_9_11)).1 (by repeat (first | with_reducible exact Gro.refl _ | with_reducible exact Gro.refl_drew _ _ _ | with_reducible exact Gro.refl_drewN _ _ _ _ | assumption | with_reducible apply Gro.more | with_reducible apply Gro.alloc | with_reducible apply Gro.drew | with_reducible apply Gro.drewN))) (Ty.up _ (rdProfile (Ty.read _ hO_w0_9_11)).2 (by repeat (first | with_reducible exact Gro.refl _ | with_reducible exact Gro.refl_drew _ _ _ | with_reducible exact Gro.refl_drewN _ _ _ _ | assumption | with_reducible apply Gro.more | with_reducible apply Gro.alloc | with_reducible apply Gro.drew | with_reducible apply Gro.drewN)))).mono ?_
  rintro e w1 ⟨rfl, os15, d15, rfl⟩
  go_wp2_with (fail)
  refine (heldProfile_l (x := p.1) (Ty.up _ (mkProfile_read hM_g0).1 (by repeat (first | with_reducible exact Gro.refl _ | with_reducible exact Gro.refl_drew _ _ _ | with_reducible exact Gro.refl_drewN _ _ _ _ | assumption | with_reducible apply Gro.more | with_reducible apply Gro.alloc | with_reducible apply Gro.drew | with_reducible apply Gro.drewN))) (Ty.up _ (mkProfile_read hM_g0).2 (by repeat (first | with_reducible exact Gro.refl _ | with_reducible exact Gro.refl_drew _ _ _ | with_reducible exact Gro.refl_drewN _ _ _ _ | assumption | with_reducible apply Gro.more | with_reducible apply Gro.alloc | with_reducible apply Gro.drew | with_reducible apply Gro.drewN))) (by omega) (by omega)).mono ?_
  rintro e w1 ⟨rfl, os16, d16, rfl⟩
  go_wp2
  go_ret
  exact ⟨rfl, (by repeat (first | with_reducible exact Gro.refl _ | with_reducible exact Gro.refl_drew _ _ _ | with_reducible exact Gro.refl_drewN _ _ _ _ | assumption | with_reducible apply Gro.more | with_reducible apply Gro.alloc | with_reducible apply Gro.drew | with_reducible apply Gro.drewN))⟩

set_option maxRecDepth 100000 in
theorem lifted (os : Os) (started : os.Started) (H : Type) (enc : TypeId × Value → H) :
    ReturnsInHanded {} Tryz.checked os 6 .any (fun w args => (Rows.fnExactMergeAllSpec.pre enc Tryz.prog Tryz.f6 Rows.fnExactMergeAllRow.domain false w args ∧ laidMetH Tryz.prog Rows.fnExactMergeAllRow.laid w) ∧ sizedMet enc Tryz.prog Tryz.f6 (OpenSpec.ofChange Rows.fnExactMergeAllSpec) false w args) (Rows.fnExactMergeAllSpec.post enc Tryz.prog Tryz.f6 false true false false) := by
  refine returns_and_shaped (C := Tryz.checked) (X := fun w _ => laidMetH Tryz.prog Rows.fnExactMergeAllRow.laid w) (fun _ _ _ hh h => h.of_heap hh) own started (by kernel_rfl) Tryz.func6
    (ChangeSpec.witness_shaped (enc := enc) (C := Tryz.checked) (os := os) (X := fun w _ => laidMetH Tryz.prog Rows.fnExactMergeAllRow.laid w) false (World.laidAll Tryz.prog os Rows.fnExactMergeAllRow.laid) #[.slice none 0 0] 8 (World.laidAll_os _ _ _) (World.shaped_of_ZipB (by kernel_rfl) (by kernel_rfl)) (by kernel_rfl) (by kernel_rfl) (by kernel_rfl) (by rw [MakeChecks.laidMetH_plain _ _ _ (by kernel_rfl)]; exact laidMet_laidAll _ (by kernel_rfl) (by kernel_rfl))) ?_
  intro W base args ds gs before hval0 hW _ _ hL hSH _
  obtain ⟨mlen, hmlen⟩ := max_len hSH
  have hval : ∀ (j : Nat) t v, Tryz.f6.params[j]? = some t → args[j]? = some v → Value.okWide Tryz.prog W .any base t v := hval0
  have hW' := hW
  obtain ⟨p, q, hA0, hV, rfl, hfz, hnd⟩ := hW
  have hA : DataW.TrodAll enc Tryz.prog W 0 (fun _ => true) true Tryz.f6.params.toList args.toList ds p := hA0
  rw [Tryz.params6] at hA hval
  obtain ⟨v0, vs0, d0, ds0, p0, q0, hargs, rfl, rfl, h0, r0⟩ := trodAll_cons hA
  obtain ⟨rfl, rfl, rfl⟩ := trodAll_nil r0
  obtain rfl : args = #[v0] := by cases args; simp_all
  obtain ⟨rfl, rfl⟩ := trodVars_none hV
  have k0 := h0
  have lt0 : ∀ x ∈ p0, x.block < W.heap.size := by obtain ⟨m, hm⟩ := k0; exact DataW.trod_lt m _ _ _ hm
  obtain ⟨a0, w0⟩ := arg_open (opens_sl (e' := 33) Tryz.underlying44 (by kernel_rfl) (by decide) tProfile_opens) h0
  rw [arg_slice Tryz.underlying44 (hval 0 44 v0 rfl rfl)] at w0
  clear hA0 hval0
  refine (walk W v0 a0 w0 hmlen).mono fun e W' ⟨he, hgro⟩ => ?_
  subst he
  have bel := hgro.below
  exact ⟨_, rfl, _, _, _, [], _, [], hW', trodAll_mk1 (shut_bool Tryz.underlying4 _), (trodAll_cons_mk (Below.trod laidOut (by kernel_rfl) (of_decide_eq_true (by kernel_rfl)) k0 bel lt0) trodAll_mk0), rfl, bel.frame _, fun h => by cases h⟩
theorem over : Rows.fnExactMergeAllRow.holds Tryz.pinned (OpenSpec.ofChange Rows.fnExactMergeAllSpec) :=
  OpenClaim.holds_of_wide 6 Tryz.f6 rfl rfl rfl rfl rfl rfl rfl ⟨rfl, rfl, rfl, rfl, rfl⟩ rfl rfl rfl rfl rfl (by kernel_rfl) Tryz.func6 (by kernel_rfl)
    (of_decide_eq_true (by kernel_rfl)) (by unfold Func.isWrapper; first | (rw [if_pos (by decide +kernel)]; kernel_rfl) | (rw [if_neg (by decide +kernel)]; exact ⟨rfl, rfl⟩))
    (fun os started H enc _ => lifted os started H enc)
/-- THE STATEMENT: the tied card -/
theorem proved : Rows.FnExactMergeAllCardSaid :=
  Claim7.holds_tied_plain_at .later [] [.data, .data, .data, .data, .pinned] true (true, "e526626bfab561ee1bd163a376c3b95eb9f14def6e8bff2cd70c2a526bf49bce") false
    over (fun _ h => by cases h) (by kernel_rfl) (fun _ h => by cases h) fnExactMergeAll_row_tie rfl ⟨rfl, rfl⟩ (by kernel_rfl) rfl
    (fun f fn hf hfn => by
      obtain rfl : f = 6 := Option.some.inj ((show Tryz.prog.funcNamed "loop.example/g03314/laws.FnExactMergeAll" = some 6 by kernel_rfl).symm.trans hf) |>.symm
      obtain rfl : fn = Tryz.f6 := (Option.some.inj (Tryz.func6.symm.trans hfn)).symm
      exact ⟨by kernel_rfl, fun j t ht => by
        rw [Tryz.params6] at ht
        have hm : t ∈ [44] := by simpa using Array.mem_of_getElem? ht
        have hall : ([44].all fun u => !Tryz.prog.wantsStandIn u) = true := by kernel_rfl
        exact (show Tryz.prog.wantsStandIn t = false by simpa using List.all_eq_true.1 hall t hm)⟩)
    (by kernel_rfl)
#print axioms proved
end Go.Proofs.YtfpacmfhpkcipaaGreatDoor.fnExactMergeAll
