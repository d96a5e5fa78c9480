/-
  The law FnExactAddStack answers true for every input: the program and the reference compute the same; the arguments stay; the result is of its own memory. No condition.
-/
import Derived.Test.YtlapempepfjkpaaRows
import Derived.Test.YtlapempepfjkpaaOpen
import Derived.Test.YtlapempepfjkpaaProfile2
import Derived.ShutString
import Derived.Deep.RegionHeld3
set_option linter.unusedVariables false
set_option linter.unusedSimpArgs false
namespace Go.Proofs.Ytlapempepfjkpaa.fnExactAddStack
open Go.ChangeShapes Go.WideShapes Go.ChangeAt Go.RowKit
open Go.ChangeMaps (open_string shut_string)
theorem own : ownKnob Try.prog.godebug = none := by kernel_rfl
theorem laidOut : laidOutB Try.prog = true := by kernel_rfl
theorem rdProfile {w : World} {B : Nat} {x : DProfile} {A0 : Option Addr} {c0 : Nat} {A1 : Option Addr} {c1 : Nat} (h : tProfile.R w B [.slice A0 x.Stacks.Nodes.length c0, .slice A1 x.Counts.length c1] x) : (tNode.sl 104).R w B [.slice A0 x.Stacks.Nodes.length c0] x.Stacks.Nodes ∧ (intT.sl 3).R w B [.slice A1 x.Counts.length c1] x.Counts := by
  obtain ⟨A0', c0', A1', c1', hc, f0, f1⟩ := tProfile_R h
  simp only [List.cons.injEq, Value.slice.injEq, true_and, and_true] at hc
  obtain ⟨⟨rfl, rfl⟩, ⟨rfl, rfl⟩⟩ := hc
  exact ⟨f0, f1⟩
set_option maxRecDepth 100000 in
set_option maxHeartbeats 4000000 in
theorem walk (w : World) (cs_p0 : Array Value) (p0 : DProfile) (h_p0 : tProfile.R w w.heap.size cs_p0.toList p0) (v_l : Value) (l : List DFrame) (h_l : (tFrame.sl 100).R w w.heap.size [v_l] l) (n : Int) (hb1_n : -9223372036854775808 ≤ n) (hb2_n : n ≤ 9223372036854775807) :
    Calls Try.prog 14 #[.agg cs_p0, v_l, .int .i64 n] w fun e w' => e = .returned (.bool true) ∧ Gro w w' := by
  obtain ⟨A0, c0, A1, c1, hcs_p0, p_p00, p_p01⟩ := tProfile_R h_p0
  obtain rfl := Array.toList_inj.1 (show cs_p0.toList = (#[.slice A0 p0.Stacks.Nodes.length c0, .slice A1 p0.Counts.length c1] : Array Value).toList from hcs_p0)
  clear h_p0 hcs_p0
  obtain ⟨A2, c2, rfl, hlc_l, hcm_l⟩ := sl_at h_l
  obtain ⟨n0, hn0⟩ : ∃ n, szProfile p0 = n := ⟨_, rfl⟩
  obtain ⟨n1, hn1⟩ : ∃ n, szL szFrame l = n := ⟨_, rfl⟩
  by_cases hz0 : (n0 : Int) ≤ 1048576
  case neg =>
    have e0 : szRes (1048576) (szProfile p0) = -1 := by rw [hn0]; exact if_neg (by omega)
    clear hn0 hn1
    go_enter Try.func14, Try.ntmps14
    go_wp2_with (fail)
    refine (szProfile_l (x := p0) (Ty.up _ p_p00 (by repeat (first | with_reducible exact Gro.refl _ | with_reducible exact Gro.refl_drew _ _ _ | with_reducible exact Gro.refl_drewN _ _ _ _ | assumption | with_reducible apply Gro.more | with_reducible apply Gro.alloc | with_reducible apply Gro.drew | with_reducible apply Gro.drewN))) (Ty.up _ p_p01 (by repeat (first | with_reducible exact Gro.refl _ | with_reducible exact Gro.refl_drew _ _ _ | with_reducible exact Gro.refl_drewN _ _ _ _ | assumption | with_reducible apply Gro.more | with_reducible apply Gro.alloc | with_reducible apply Gro.drew | with_reducible apply Gro.drewN))) (by omega) (by omega)).mono ?_
    rintro e w1 ⟨rfl, os0, d0, rfl⟩
    go_wp2
    go_ret
    exact ⟨rfl, (by repeat (first | with_reducible exact Gro.refl _ | with_reducible exact Gro.refl_drew _ _ _ | with_reducible exact Gro.refl_drewN _ _ _ _ | assumption | with_reducible apply Gro.more | with_reducible apply Gro.alloc | with_reducible apply Gro.drew | with_reducible apply Gro.drewN))⟩
  by_cases hz1 : (n0 : Int) + (n1 : Int) ≤ 1048576
  case neg =>
    have e0 : szRes (1048576) (szProfile p0) = 1048576 - (n0 : Int) := by rw [hn0]; exact if_pos (by omega)
    have e1 : szRes (1048576 - (n0 : Int)) (szL szFrame l) = -1 := by rw [hn1]; exact if_neg (by omega)
    clear hn0 hn1
    go_enter Try.func14, Try.ntmps14
    go_wp2_with (fail)
    refine (szProfile_l (x := p0) (Ty.up _ p_p00 (by repeat (first | with_reducible exact Gro.refl _ | with_reducible exact Gro.refl_drew _ _ _ | with_reducible exact Gro.refl_drewN _ _ _ _ | assumption | with_reducible apply Gro.more | with_reducible apply Gro.alloc | with_reducible apply Gro.drew | with_reducible apply Gro.drewN))) (Ty.up _ p_p01 (by repeat (first | with_reducible exact Gro.refl _ | with_reducible exact Gro.refl_drew _ _ _ | with_reducible exact Gro.refl_drewN _ _ _ _ | assumption | with_reducible apply Gro.more | with_reducible apply Gro.alloc | with_reducible apply Gro.drew | with_reducible apply Gro.drewN))) (by omega) (by omega)).mono ?_
    rintro e w1 ⟨rfl, os0, d0, rfl⟩
    go_wp2_with (fail)
    refine (szFrameS_l (xs := l) (Ty.up _ h_l (by repeat (first | with_reducible exact Gro.refl _ | with_reducible exact Gro.refl_drew _ _ _ | with_reducible exact Gro.refl_drewN _ _ _ _ | assumption | with_reducible apply Gro.more | with_reducible apply Gro.alloc | with_reducible apply Gro.drew | with_reducible apply Gro.drewN))) (by omega) (by omega)).mono ?_
    rintro e w1 ⟨rfl, os1, d1, rfl⟩
    go_wp2
    go_ret
    exact ⟨rfl, (by repeat (first | with_reducible exact Gro.refl _ | with_reducible exact Gro.refl_drew _ _ _ | with_reducible exact Gro.refl_drewN _ _ _ _ | assumption | with_reducible apply Gro.more | with_reducible apply Gro.alloc | with_reducible apply Gro.drew | with_reducible apply Gro.drewN))⟩
  have e0 : szRes (1048576) (szProfile p0) = 1048576 - (n0 : Int) := by rw [hn0]; exact if_pos (by omega)
  have e1 : szRes (1048576 - (n0 : Int)) (szL szFrame l) = 1048576 - (n0 : Int) - (n1 : Int) := by rw [hn1]; exact if_pos (by omega)
  have hl_p00 : p0.Stacks.Nodes.length ≤ 1048576 := by have h := hn0; unfold szProfile szStacks at h; have := szL_len szNode p0.Stacks.Nodes; omega
  have hl_p01 : p0.Counts.length ≤ 1048576 := by have h := hn0; unfold szProfile szStacks at h; omega
  have hs_p0 : szProfile p0 ≤ 1048576 := by omega
  have hl_l : l.length ≤ 1048576 := by have h := hn1; have := szL_len szFrame l; omega
  have hs_l : szL szFrame l ≤ 1048576 := by omega
  have hcnt_p0 : cntProfile p0 ≤ 8388608 := by unfold cntProfile cntStacks cntNodeS; omega
  have hcnt_l : cntFrameS l ≤ 4194304 := by unfold cntFrameS; omega
  have HN0 := Lib.hid hn0
  have HN1 := Lib.hid hn1
  clear hn0 hn1
  obtain ⟨p, hp, hpb0, hpb1, hpb2⟩ : ∃ p, Hid (addStack p0 l n = p) ∧ p.1.Stacks.Nodes.length ≤ 2097152 ∧ p.1.Counts.length ≤ 4194304 ∧ cntProfile p.1 ≤ 16777216 := ⟨_, Lib.hid rfl, by have := addStack_len p0 l n; omega, by have := addStack_len p0 l n; omega, by have := addStack_len p0 l n; unfold cntProfile cntStacks cntNodeS; omega⟩
  go_enter Try.func14, Try.ntmps14
  go_wp2_with (fail)
  refine (szProfile_l (x := p0) (Ty.up _ p_p00 (by repeat (first | with_reducible exact Gro.refl _ | with_reducible exact Gro.refl_drew _ _ _ | with_reducible exact Gro.refl_drewN _ _ _ _ | assumption | with_reducible apply Gro.more | with_reducible apply Gro.alloc | with_reducible apply Gro.drew | with_reducible apply Gro.drewN))) (Ty.up _ p_p01 (by repeat (first | with_reducible exact Gro.refl _ | with_reducible exact Gro.refl_drew _ _ _ | with_reducible exact Gro.refl_drewN _ _ _ _ | assumption | with_reducible apply Gro.more | with_reducible apply Gro.alloc | with_reducible apply Gro.drew | with_reducible apply Gro.drewN))) (by omega) (by omega)).mono ?_
  rintro e w1 ⟨rfl, os0, d0, rfl⟩
  go_wp2_with (fail)
  refine (szFrameS_l (xs := l) (Ty.up _ h_l (by repeat (first | with_reducible exact Gro.refl _ | with_reducible exact Gro.refl_drew _ _ _ | with_reducible exact Gro.refl_drewN _ _ _ _ | assumption | with_reducible apply Gro.more | with_reducible apply Gro.alloc | with_reducible apply Gro.drew | with_reducible apply Gro.drewN))) (by omega) (by omega)).mono ?_
  rintro e w1 ⟨rfl, os1, d1, rfl⟩
  go_wp2_with (fail)
  refine (toProfile_l (x := p0) (Ty.up _ p_p00 (by repeat (first | with_reducible exact Gro.refl _ | with_reducible exact Gro.refl_drew _ _ _ | with_reducible exact Gro.refl_drewN _ _ _ _ | assumption | with_reducible apply Gro.more | with_reducible apply Gro.alloc | with_reducible apply Gro.drew | with_reducible apply Gro.drewN))) (Ty.up _ p_p01 (by repeat (first | with_reducible exact Gro.refl _ | with_reducible exact Gro.refl_drew _ _ _ | with_reducible exact Gro.refl_drewN _ _ _ _ | assumption | with_reducible apply Gro.more | with_reducible apply Gro.alloc | with_reducible apply Gro.drew | with_reducible apply Gro.drewN))) (by omega)).mono ?_
  rintro e w1 ⟨A3_0, c3_0, A3_1, c3_1, rfl, hF3, os3, d3, rfl⟩
  go_wp2_with (fail)
  refine (toFrameS_l (xs := l) (Ty.up _ h_l (by repeat (first | with_reducible exact Gro.refl _ | with_reducible exact Gro.refl_drew _ _ _ | with_reducible exact Gro.refl_drewN _ _ _ _ | assumption | with_reducible apply Gro.more | with_reducible apply Gro.alloc | with_reducible apply Gro.drew | with_reducible apply Gro.drewN))) (by omega)).mono ?_
  rintro e w1 ⟨A4_0, c4_0, rfl, hF4, os4, d4, rfl⟩
  go_wp2_with (fail)
  refine (addStack_s (p := p0) (l := l) (n := n) (Ty.up _ (rdProfile hF3.read).1 (by repeat (first | with_reducible exact Gro.refl _ | with_reducible exact Gro.refl_drew _ _ _ | with_reducible exact Gro.refl_drewN _ _ _ _ | assumption | with_reducible apply Gro.more | with_reducible apply Gro.alloc | with_reducible apply Gro.drew | with_reducible apply Gro.drewN))) (Ty.up _ (rdProfile hF3.read).2 (by repeat (first | with_reducible exact Gro.refl _ | with_reducible exact Gro.refl_drew _ _ _ | with_reducible exact Gro.refl_drewN _ _ _ _ | assumption | with_reducible apply Gro.more | with_reducible apply Gro.alloc | with_reducible apply Gro.drew | with_reducible apply Gro.drewN))) (Ty.up _ hF4.read (by repeat (first | with_reducible exact Gro.refl _ | with_reducible exact Gro.refl_drew _ _ _ | with_reducible exact Gro.refl_drewN _ _ _ _ | assumption | with_reducible apply Gro.more | with_reducible apply Gro.alloc | with_reducible apply Gro.drew | with_reducible apply Gro.drewN))) (by omega) (by omega) (by omega)).mono ?_
  rw [hp.out]
  rintro e w1 ⟨B5_0, e5_0, B5_1, e5_1, rfl, hR5, os5, d5, rfl⟩
  go_wp2_with (fail)
  refine (toProfile_l (x := p0) (Ty.up _ p_p00 (by repeat (first | with_reducible exact Gro.refl _ | with_reducible exact Gro.refl_drew _ _ _ | with_reducible exact Gro.refl_drewN _ _ _ _ | assumption | with_reducible apply Gro.more | with_reducible apply Gro.alloc | with_reducible apply Gro.drew | with_reducible apply Gro.drewN))) (Ty.up _ p_p01 (by repeat (first | with_reducible exact Gro.refl _ | with_reducible exact Gro.refl_drew _ _ _ | with_reducible exact Gro.refl_drewN _ _ _ _ | assumption | with_reducible apply Gro.more | with_reducible apply Gro.alloc | with_reducible apply Gro.drew | with_reducible apply Gro.drewN))) (by omega)).mono ?_
  rintro e w1 ⟨A6_0, c6_0, A6_1, c6_1, rfl, hF6, os6, d6, rfl⟩
  go_wp2_with (fail)
  refine (toFrameS_l (xs := l) (Ty.up _ h_l (by repeat (first | with_reducible exact Gro.refl _ | with_reducible exact Gro.refl_drew _ _ _ | with_reducible exact Gro.refl_drewN _ _ _ _ | assumption | with_reducible apply Gro.more | with_reducible apply Gro.alloc | with_reducible apply Gro.drew | with_reducible apply Gro.drewN))) (by omega)).mono ?_
  rintro e w1 ⟨A7_0, c7_0, rfl, hF7, os7, d7, rfl⟩
  go_wp2_with (fail)
  refine (addStack_i (p := p0) (l := l) (n := n) (Ty.up _ (rdProfile hF6.read).1 (by repeat (first | with_reducible exact Gro.refl _ | with_reducible exact Gro.refl_drew _ _ _ | with_reducible exact Gro.refl_drewN _ _ _ _ | assumption | with_reducible apply Gro.more | with_reducible apply Gro.alloc | with_reducible apply Gro.drew | with_reducible apply Gro.drewN))) (Ty.up _ (rdProfile hF6.read).2 (by repeat (first | with_reducible exact Gro.refl _ | with_reducible exact Gro.refl_drew _ _ _ | with_reducible exact Gro.refl_drewN _ _ _ _ | assumption | with_reducible apply Gro.more | with_reducible apply Gro.alloc | with_reducible apply Gro.drew | with_reducible apply Gro.drewN))) (Ty.up _ hF7.read (by repeat (first | with_reducible exact Gro.refl _ | with_reducible exact Gro.refl_drew _ _ _ | with_reducible exact Gro.refl_drewN _ _ _ _ | assumption | with_reducible apply Gro.more | with_reducible apply Gro.alloc | with_reducible apply Gro.drew | with_reducible apply Gro.drewN))) (by omega) (by omega) (by omega)).mono ?_
  rw [hp.out]
  rintro e w1 ⟨B8_0, e8_0, B8_1, e8_1, rfl, hR8, os8, d8, rfl⟩
  go_wp2_with (fail)
  refine (eqProfile_l (x := p.1) (y := p.1) (Ty.up _ (rdProfile hR8.read).1 (by repeat (first | with_reducible exact Gro.refl _ | with_reducible exact Gro.refl_drew _ _ _ | with_reducible exact Gro.refl_drewN _ _ _ _ | assumption | with_reducible apply Gro.more | with_reducible apply Gro.alloc | with_reducible apply Gro.drew | with_reducible apply Gro.drewN))) (Ty.up _ (rdProfile hR8.read).2 (by repeat (first | with_reducible exact Gro.refl _ | with_reducible exact Gro.refl_drew _ _ _ | with_reducible exact Gro.refl_drewN _ _ _ _ | assumption | with_reducible apply Gro.more | with_reducible apply Gro.alloc | with_reducible apply Gro.drew | with_reducible apply Gro.drewN))) (Ty.up _ (rdProfile hR5.read).1 (by repeat (first | with_reducible exact Gro.refl _ | with_reducible exact Gro.refl_drew _ _ _ | with_reducible exact Gro.refl_drewN _ _ _ _ | assumption | with_reducible apply Gro.more | with_reducible apply Gro.alloc | with_reducible apply Gro.drew | with_reducible apply Gro.drewN))) (Ty.up _ (rdProfile hR5.read).2 (by repeat (first | with_reducible exact Gro.refl _ | with_reducible exact Gro.refl_drew _ _ _ | with_reducible exact Gro.refl_drewN _ _ _ _ | assumption | with_reducible apply Gro.more | with_reducible apply Gro.alloc | with_reducible apply Gro.drew | with_reducible apply Gro.drewN)))).mono ?_
  rintro e w1 ⟨rfl, os9, d9, rfl⟩
  go_wp2_with (fail)
  go_region_held3 (fun w' => w'.cell? ⟨w.heap.size + 1 + os0.size + os1.size + os3.size + os4.size + os5.size + 1 + os6.size, 0, none⟩ = some (.slice A6_0 p0.Stacks.Nodes.length c6_0) ∧ w'.cell? ⟨w.heap.size + 1 + os0.size + os1.size + os3.size + os4.size + os5.size + 1 + os6.size, 1, none⟩ = some (.slice A6_1 p0.Counts.length c6_1) ∧ w'.cell? ⟨w.heap.size, 0, none⟩ = some (.slice A0 p0.Stacks.Nodes.length c0) ∧ w'.cell? ⟨w.heap.size, 1, none⟩ = some (.slice A1 p0.Counts.length c1)) (simp [go_sem]) (first
      | (go_at_call 49; refine (toProfile_l (x := p0) (Ty.up _ p_p00 (by repeat (first | with_reducible exact Gro.refl _ | with_reducible exact Gro.refl_drew _ _ _ | with_reducible exact Gro.refl_drewN _ _ _ _ | assumption | with_reducible apply Gro.more | with_reducible apply Gro.alloc | with_reducible apply Gro.drew | with_reducible apply Gro.drewN))) (Ty.up _ p_p01 (by repeat (first | with_reducible exact Gro.refl _ | with_reducible exact Gro.refl_drew _ _ _ | with_reducible exact Gro.refl_drewN _ _ _ _ | assumption | with_reducible apply Gro.more | with_reducible apply Gro.alloc | with_reducible apply Gro.drew | with_reducible apply Gro.drewN))) (by omega)).mono ?_; rintro e w1 ⟨A10_0, c10_0, A10_1, c10_1, rfl, hF10, os10, d10, rfl⟩)
      | (go_at_call 51; refine (eqProfile_l (x := p0) (y := p0) (Ty.up _ (rdProfile hF6.read).1 (by repeat (first | with_reducible exact Gro.refl _ | with_reducible exact Gro.refl_drew _ _ _ | with_reducible exact Gro.refl_drewN _ _ _ _ | assumption | with_reducible apply Gro.more | with_reducible apply Gro.alloc | with_reducible apply Gro.drew | with_reducible apply Gro.drewN))) (Ty.up _ (rdProfile hF6.read).2 (by repeat (first | with_reducible exact Gro.refl _ | with_reducible exact Gro.refl_drew _ _ _ | with_reducible exact Gro.refl_drewN _ _ _ _ | assumption | with_reducible apply Gro.more | with_reducible apply Gro.alloc | with_reducible apply Gro.drew | with_reducible apply Gro.drewN))) (Ty.up _ (rdProfile hF10.read).1 (by repeat (first | with_reducible exact Gro.refl _ | with_reducible exact Gro.refl_drew _ _ _ | with_reducible exact Gro.refl_drewN _ _ _ _ | assumption | with_reducible apply Gro.more | with_reducible apply Gro.alloc | with_reducible apply Gro.drew | with_reducible apply Gro.drewN))) (Ty.up _ (rdProfile hF10.read).2 (by repeat (first | with_reducible exact Gro.refl _ | with_reducible exact Gro.refl_drew _ _ _ | with_reducible exact Gro.refl_drewN _ _ _ _ | assumption | with_reducible apply Gro.more | with_reducible apply Gro.alloc | with_reducible apply Gro.drew | with_reducible apply Gro.drewN)))).mono ?_; rintro e w1 ⟨rfl, os11, d11, rfl⟩))
  go_wp2_with (fail)
  refine (toFrameS_l (xs := l) (Ty.up _ h_l (by repeat (first | with_reducible exact Gro.refl _ | with_reducible exact Gro.refl_drew _ _ _ | with_reducible exact Gro.refl_drewN _ _ _ _ | assumption | with_reducible apply Gro.more | with_reducible apply Gro.alloc | with_reducible apply Gro.drew | with_reducible apply Gro.drewN))) (by omega)).mono ?_
  rintro e w1 ⟨A12_0, c12_0, rfl, hF12, os12, d12, rfl⟩
  go_wp2_with (fail)
  refine (eqFrameS_l (xs := l) (ys := l) (Ty.up _ hF7.read (by repeat (first | with_reducible exact Gro.refl _ | with_reducible exact Gro.refl_drew _ _ _ | with_reducible exact Gro.refl_drewN _ _ _ _ | assumption | with_reducible apply Gro.more | with_reducible apply Gro.alloc | with_reducible apply Gro.drew | with_reducible apply Gro.drewN))) (Ty.up _ hF12.read (by repeat (first | with_reducible exact Gro.refl _ | with_reducible exact Gro.refl_drew _ _ _ | with_reducible exact Gro.refl_drewN _ _ _ _ | assumption | with_reducible apply Gro.more | with_reducible apply Gro.alloc | with_reducible apply Gro.drew | with_reducible apply Gro.drewN)))).mono ?_
  rintro e w1 ⟨rfl, os13, d13, rfl⟩
  go_wp2_with (fail)
  obtain ⟨S_w0, hO_w0, hN_w0, hL_w0⟩ := hR5
  have hU_w0 := Ty.ltO _ hO_w0
  obtain ⟨S_x_p0, hO_x_p0, hN_x_p0, hL_x_p0⟩ := hF6
  have hU_x_p0 := Ty.ltO _ hO_x_p0
  obtain ⟨S_x_l, hO_x_l, hN_x_l, hL_x_l⟩ := hF7
  have hU_x_l := Ty.ltO _ hO_x_l
  obtain ⟨S_g0, hO_g0, hN_g0, hL_g0⟩ := hR8
  have hU_g0 := Ty.ltO _ hO_g0
  go_wp2_with (fail)
  refine (markProfile_l (x := p0) (Ty.groO _ hO_x_p0 (by repeat (first | with_reducible exact Gro.refl _ | with_reducible exact Gro.refl_drew _ _ _ | with_reducible exact Gro.refl_drewN _ _ _ _ | assumption | with_reducible apply Gro.more | with_reducible apply Gro.alloc | with_reducible apply Gro.drew | with_reducible apply Gro.drewN))) hN_x_p0 (by omega) (by omega)).mono ?_
  rintro e w14 ⟨rfl, hM_x_p0, hS14⟩
  have hO_w0_14 := keepOnly _ hO_w0 hS14 (by repeat (first | with_reducible exact Gro.refl _ | with_reducible exact Gro.refl_drew _ _ _ | with_reducible exact Gro.refl_drewN _ _ _ _ | assumption | with_reducible apply Gro.more | with_reducible apply Gro.alloc | with_reducible apply Gro.drew | with_reducible apply Gro.drewN)) (fun b hb hm => by have q1 := hU_w0 b hb; have q2 := hL_x_p0 b hm; simp at q1 q2; omega)
  have hO_x_l_14 := keepOnly _ hO_x_l hS14 (by repeat (first | with_reducible exact Gro.refl _ | with_reducible exact Gro.refl_drew _ _ _ | with_reducible exact Gro.refl_drewN _ _ _ _ | assumption | with_reducible apply Gro.more | with_reducible apply Gro.alloc | with_reducible apply Gro.drew | with_reducible apply Gro.drewN)) (fun b hb hm => by have q1 := hL_x_l b hb; have q2 := hU_x_p0 b hm; simp at q1 q2; omega)
  have hO_g0_14 := keepOnly _ hO_g0 hS14 (by repeat (first | with_reducible exact Gro.refl _ | with_reducible exact Gro.refl_drew _ _ _ | with_reducible exact Gro.refl_drewN _ _ _ _ | assumption | with_reducible apply Gro.more | with_reducible apply Gro.alloc | with_reducible apply Gro.drew | with_reducible apply Gro.drewN)) (fun b hb hm => by have q1 := hL_g0 b hb; have q2 := hU_x_p0 b hm; simp at q1 q2; omega)
  have hc14_p0_0 : w14.cell? ⟨w.heap.size, 0, none⟩ = some (.slice A0 p0.Stacks.Nodes.length c0) := (hS14.cell (by simp <;> omega) (fun hm => by have q1 := hL_x_p0 _ hm; simp at q1 <;> omega) 0).trans (by simp [go_sem])
  have hc14_p0_1 : w14.cell? ⟨w.heap.size, 1, none⟩ = some (.slice A1 p0.Counts.length c1) := (hS14.cell (by simp <;> omega) (fun hm => by have q1 := hL_x_p0 _ hm; simp at q1 <;> omega) 1).trans (by simp [go_sem])
  have hcb_p0 : w.heap.size < w14.heap.size := Nat.lt_of_lt_of_le (by simp <;> omega) hS14.size
  have hc14_w0_0 : w14.cell? ⟨w.heap.size + 1 + os0.size + os1.size + os3.size + os4.size + os5.size, 0, none⟩ = some (.slice B5_0 p.1.Stacks.Nodes.length e5_0) := (hS14.cell (by simp <;> omega) (fun hm => by have q1 := hL_x_p0 _ hm; simp at q1 <;> omega) 0).trans (by simp [go_sem])
  have hc14_w0_1 : w14.cell? ⟨w.heap.size + 1 + os0.size + os1.size + os3.size + os4.size + os5.size, 1, none⟩ = some (.slice B5_1 p.1.Counts.length e5_1) := (hS14.cell (by simp <;> omega) (fun hm => by have q1 := hL_x_p0 _ hm; simp at q1 <;> omega) 1).trans (by simp [go_sem])
  have hcb_w0 : w.heap.size + 1 + os0.size + os1.size + os3.size + os4.size + os5.size < w14.heap.size := Nat.lt_of_lt_of_le (by simp <;> omega) hS14.size
  have hc14_g0_0 : w14.cell? ⟨w.heap.size + 1 + os0.size + os1.size + os3.size + os4.size + os5.size + 1 + os6.size + 1 + os7.size + os8.size, 0, none⟩ = some (.slice B8_0 p.1.Stacks.Nodes.length e8_0) := (hS14.cell (by simp <;> omega) (fun hm => by have q1 := hU_x_p0 _ hm; simp at q1 <;> omega) 0).trans (by simp [go_sem])
  have hc14_g0_1 : w14.cell? ⟨w.heap.size + 1 + os0.size + os1.size + os3.size + os4.size + os5.size + 1 + os6.size + 1 + os7.size + os8.size, 1, none⟩ = some (.slice B8_1 p.1.Counts.length e8_1) := (hS14.cell (by simp <;> omega) (fun hm => by have q1 := hU_x_p0 _ hm; simp at q1 <;> omega) 1).trans (by simp [go_sem])
  have hcb_g0 : w.heap.size + 1 + os0.size + os1.size + os3.size + os4.size + os5.size + 1 + os6.size + 1 + os7.size + os8.size < w14.heap.size := Nat.lt_of_lt_of_le (by simp <;> omega) hS14.size
  obtain ⟨os14, d14, rfl⟩ := hS14.gro (W0 := w) (by repeat (first | with_reducible exact Gro.refl _ | with_reducible exact Gro.refl_drew _ _ _ | with_reducible exact Gro.refl_drewN _ _ _ _ | assumption | with_reducible apply Gro.more | with_reducible apply Gro.alloc | with_reducible apply Gro.drew | with_reducible apply Gro.drewN)) (fun b hb => by have q1 := hL_x_p0 b hb; simp at q1; omega)
  clear hS14
  simp at hcb_p0
  simp at hcb_w0
  simp at hcb_g0
  go_wp2_with (fail)
  refine (markFrameS_l (xs := l) (Ty.groO _ hO_x_l_14 (by repeat (first | with_reducible exact Gro.refl _ | with_reducible exact Gro.refl_drew _ _ _ | with_reducible exact Gro.refl_drewN _ _ _ _ | assumption | with_reducible apply Gro.more | with_reducible apply Gro.alloc | with_reducible apply Gro.drew | with_reducible apply Gro.drewN))) hN_x_l (by omega) (by omega)).mono ?_
  rintro e w15 ⟨rfl, hM_x_l, hS15⟩
  have hO_w0_14_15 := keepOnly _ hO_w0_14 hS15 (by repeat (first | with_reducible exact Gro.refl _ | with_reducible exact Gro.refl_drew _ _ _ | with_reducible exact Gro.refl_drewN _ _ _ _ | assumption | with_reducible apply Gro.more | with_reducible apply Gro.alloc | with_reducible apply Gro.drew | with_reducible apply Gro.drewN)) (fun b hb hm => by have q1 := hU_w0 b hb; have q2 := hL_x_l b hm; simp at q1 q2; omega)
  have hO_g0_14_15 := keepOnly _ hO_g0_14 hS15 (by repeat (first | with_reducible exact Gro.refl _ | with_reducible exact Gro.refl_drew _ _ _ | with_reducible exact Gro.refl_drewN _ _ _ _ | assumption | with_reducible apply Gro.more | with_reducible apply Gro.alloc | with_reducible apply Gro.drew | with_reducible apply Gro.drewN)) (fun b hb hm => by have q1 := hL_g0 b hb; have q2 := hU_x_l b hm; simp at q1 q2; omega)
  have hc15_p0_0 : w15.cell? ⟨w.heap.size, 0, none⟩ = some (.slice A0 p0.Stacks.Nodes.length c0) := (hS15.cell (by simp <;> omega) (fun hm => by have q1 := hL_x_l _ hm; simp at q1 <;> omega) 0).trans (by first | exact hc14_p0_0 | exact gro_keeps hc14_p0_0 _ _ | simp [go_sem, hc14_p0_0, hcb_p0])
  have hc15_p0_1 : w15.cell? ⟨w.heap.size, 1, none⟩ = some (.slice A1 p0.Counts.length c1) := (hS15.cell (by simp <;> omega) (fun hm => by have q1 := hL_x_l _ hm; simp at q1 <;> omega) 1).trans (by first | exact hc14_p0_1 | exact gro_keeps hc14_p0_1 _ _ | simp [go_sem, hc14_p0_1, hcb_p0])
  replace hcb_p0 : w.heap.size < w15.heap.size := Nat.lt_of_lt_of_le (by simp <;> omega) hS15.size
  have hc15_w0_0 : w15.cell? ⟨w.heap.size + 1 + os0.size + os1.size + os3.size + os4.size + os5.size, 0, none⟩ = some (.slice B5_0 p.1.Stacks.Nodes.length e5_0) := (hS15.cell (by simp <;> omega) (fun hm => by have q1 := hL_x_l _ hm; simp at q1 <;> omega) 0).trans (by first | exact hc14_w0_0 | exact gro_keeps hc14_w0_0 _ _ | simp [go_sem, hc14_w0_0, hcb_w0])
  have hc15_w0_1 : w15.cell? ⟨w.heap.size + 1 + os0.size + os1.size + os3.size + os4.size + os5.size, 1, none⟩ = some (.slice B5_1 p.1.Counts.length e5_1) := (hS15.cell (by simp <;> omega) (fun hm => by have q1 := hL_x_l _ hm; simp at q1 <;> omega) 1).trans (by first | exact hc14_w0_1 | exact gro_keeps hc14_w0_1 _ _ | simp [go_sem, hc14_w0_1, hcb_w0])
  replace hcb_w0 : w.heap.size + 1 + os0.size + os1.size + os3.size + os4.size + os5.size < w15.heap.size := Nat.lt_of_lt_of_le (by simp <;> omega) hS15.size
  have hc15_g0_0 : w15.cell? ⟨w.heap.size + 1 + os0.size + os1.size + os3.size + os4.size + os5.size + 1 + os6.size + 1 + os7.size + os8.size, 0, none⟩ = some (.slice B8_0 p.1.Stacks.Nodes.length e8_0) := (hS15.cell (by simp <;> omega) (fun hm => by have q1 := hU_x_l _ hm; simp at q1 <;> omega) 0).trans (by first | exact hc14_g0_0 | exact gro_keeps hc14_g0_0 _ _ | simp [go_sem, hc14_g0_0, hcb_g0])
  have hc15_g0_1 : w15.cell? ⟨w.heap.size + 1 + os0.size + os1.size + os3.size + os4.size + os5.size + 1 + os6.size + 1 + os7.size + os8.size, 1, none⟩ = some (.slice B8_1 p.1.Counts.length e8_1) := (hS15.cell (by simp <;> omega) (fun hm => by have q1 := hU_x_l _ hm; simp at q1 <;> omega) 1).trans (by first | exact hc14_g0_1 | exact gro_keeps hc14_g0_1 _ _ | simp [go_sem, hc14_g0_1, hcb_g0])
  replace hcb_g0 : w.heap.size + 1 + os0.size + os1.size + os3.size + os4.size + os5.size + 1 + os6.size + 1 + os7.size + os8.size < w15.heap.size := Nat.lt_of_lt_of_le (by simp <;> omega) hS15.size
  clear hc14_p0_0 hc14_p0_1 hc14_w0_0 hc14_w0_1 hc14_g0_0 hc14_g0_1
  obtain ⟨os15, d15, rfl⟩ := hS15.gro (W0 := w) (by repeat (first | with_reducible exact Gro.refl _ | with_reducible exact Gro.refl_drew _ _ _ | with_reducible exact Gro.refl_drewN _ _ _ _ | assumption | with_reducible apply Gro.more | with_reducible apply Gro.alloc | with_reducible apply Gro.drew | with_reducible apply Gro.drewN)) (fun b hb => by have q1 := hL_x_l b hb; simp at q1; omega)
  clear hS15
  simp at hcb_p0
  simp at hcb_w0
  simp at hcb_g0
  go_wp2_with (fail)
  refine (eqProfile_l (x := p.1) (y := p.1) (Ty.up _ (rdProfile (Ty.read _ hO_g0_14_15)).1 (by repeat (first | with_reducible exact Gro.refl _ | with_reducible exact Gro.refl_drew _ _ _ | with_reducible exact Gro.refl_drewN _ _ _ _ | assumption | with_reducible apply Gro.more | with_reducible apply Gro.alloc | with_reducible apply Gro.drew | with_reducible apply Gro.drewN))) (Ty.up _ (rdProfile (Ty.read _ hO_g0_14_15)).2 (by repeat (first | with_reducible exact Gro.refl _ | with_reducible exact Gro.refl_drew _ _ _ | with_reducible exact Gro.refl_drewN _ _ _ _ | assumption | with_reducible apply Gro.more | with_reducible apply Gro.alloc | with_reducible apply Gro.drew | with_reducible apply Gro.drewN))) (Ty.up _ (rdProfile (Ty.read _ hO_w0_14_15)).1 (by repeat (first | with_reducible exact Gro.refl _ | with_reducible exact Gro.refl_drew _ _ _ | with_reducible exact Gro.refl_drewN _ _ _ _ | assumption | with_reducible apply Gro.more | with_reducible apply Gro.alloc | with_reducible apply Gro.drew | with_reducible apply Gro.drewN))) (Ty.up _ (rdProfile (Ty.read _ hO_w0_14_15)).2 (by repeat (first | with_reducible exact Gro.refl _ | with_reducible exact Gro.refl_drew _ _ _ | with_reducible exact Gro.refl_drewN _ _ _ _ | assumption | with_reducible apply Gro.more | with_reducible apply Gro.alloc | with_reducible apply Gro.drew | with_reducible apply Gro.drewN)))).mono ?_
  rintro e w1 ⟨rfl, os16, d16, rfl⟩
  go_wp2_with (fail)
  refine (markProfile_l (x := p.1) (Ty.groO _ hO_g0_14_15 (by repeat (first | with_reducible exact Gro.refl _ | with_reducible exact Gro.refl_drew _ _ _ | with_reducible exact Gro.refl_drewN _ _ _ _ | assumption | with_reducible apply Gro.more | with_reducible apply Gro.alloc | with_reducible apply Gro.drew | with_reducible apply Gro.drewN))) hN_g0 (by omega) (by omega)).mono ?_
  rintro e w17 ⟨rfl, hM_g0, hS17⟩
  have hO_w0_14_15_17 := keepOnly _ hO_w0_14_15 hS17 (by repeat (first | with_reducible exact Gro.refl _ | with_reducible exact Gro.refl_drew _ _ _ | with_reducible exact Gro.refl_drewN _ _ _ _ | assumption | with_reducible apply Gro.more | with_reducible apply Gro.alloc | with_reducible apply Gro.drew | with_reducible apply Gro.drewN)) (fun b hb hm => by have q1 := hU_w0 b hb; have q2 := hL_g0 b hm; simp at q1 q2; omega)
  have hc17_p0_0 : w17.cell? ⟨w.heap.size, 0, none⟩ = some (.slice A0 p0.Stacks.Nodes.length c0) := (hS17.cell (by simp <;> omega) (fun hm => by have q1 := hL_g0 _ hm; simp at q1 <;> omega) 0).trans (by first | exact hc15_p0_0 | exact gro_keeps hc15_p0_0 _ _ | simp [go_sem, hc15_p0_0, hcb_p0])
  have hc17_p0_1 : w17.cell? ⟨w.heap.size, 1, none⟩ = some (.slice A1 p0.Counts.length c1) := (hS17.cell (by simp <;> omega) (fun hm => by have q1 := hL_g0 _ hm; simp at q1 <;> omega) 1).trans (by first | exact hc15_p0_1 | exact gro_keeps hc15_p0_1 _ _ | simp [go_sem, hc15_p0_1, hcb_p0])
  replace hcb_p0 : w.heap.size < w17.heap.size := Nat.lt_of_lt_of_le (by simp <;> omega) hS17.size
  have hc17_w0_0 : w17.cell? ⟨w.heap.size + 1 + os0.size + os1.size + os3.size + os4.size + os5.size, 0, none⟩ = some (.slice B5_0 p.1.Stacks.Nodes.length e5_0) := (hS17.cell (by simp <;> omega) (fun hm => by have q1 := hL_g0 _ hm; simp at q1 <;> omega) 0).trans (by first | exact hc15_w0_0 | exact gro_keeps hc15_w0_0 _ _ | simp [go_sem, hc15_w0_0, hcb_w0])
  have hc17_w0_1 : w17.cell? ⟨w.heap.size + 1 + os0.size + os1.size + os3.size + os4.size + os5.size, 1, none⟩ = some (.slice B5_1 p.1.Counts.length e5_1) := (hS17.cell (by simp <;> omega) (fun hm => by have q1 := hL_g0 _ hm; simp at q1 <;> omega) 1).trans (by first | exact hc15_w0_1 | exact gro_keeps hc15_w0_1 _ _ | simp [go_sem, hc15_w0_1, hcb_w0])
  replace hcb_w0 : w.heap.size + 1 + os0.size + os1.size + os3.size + os4.size + os5.size < w17.heap.size := Nat.lt_of_lt_of_le (by simp <;> omega) hS17.size
  have hc17_g0_0 : w17.cell? ⟨w.heap.size + 1 + os0.size + os1.size + os3.size + os4.size + os5.size + 1 + os6.size + 1 + os7.size + os8.size, 0, none⟩ = some (.slice B8_0 p.1.Stacks.Nodes.length e8_0) := (hS17.cell (by simp <;> omega) (fun hm => by have q1 := hU_g0 _ hm; simp at q1 <;> omega) 0).trans (by first | exact hc15_g0_0 | exact gro_keeps hc15_g0_0 _ _ | simp [go_sem, hc15_g0_0, hcb_g0])
  have hc17_g0_1 : w17.cell? ⟨w.heap.size + 1 + os0.size + os1.size + os3.size + os4.size + os5.size + 1 + os6.size + 1 + os7.size + os8.size, 1, none⟩ = some (.slice B8_1 p.1.Counts.length e8_1) := (hS17.cell (by simp <;> omega) (fun hm => by have q1 := hU_g0 _ hm; simp at q1 <;> omega) 1).trans (by first | exact hc15_g0_1 | exact gro_keeps hc15_g0_1 _ _ | simp [go_sem, hc15_g0_1, hcb_g0])
  replace hcb_g0 : w.heap.size + 1 + os0.size + os1.size + os3.size + os4.size + os5.size + 1 + os6.size + 1 + os7.size + os8.size < w17.heap.size := Nat.lt_of_lt_of_le (by simp <;> omega) hS17.size
  clear hc15_p0_0 hc15_p0_1 hc15_w0_0 hc15_w0_1 hc15_g0_0 hc15_g0_1
  obtain ⟨os17, d17, rfl⟩ := hS17.gro (W0 := w) (by repeat (first | with_reducible exact Gro.refl _ | with_reducible exact Gro.refl_drew _ _ _ | with_reducible exact Gro.refl_drewN _ _ _ _ | assumption | with_reducible apply Gro.more | with_reducible apply Gro.alloc | with_reducible apply Gro.drew | with_reducible apply Gro.drewN)) (fun b hb => by have q1 := hL_g0 b hb; simp at q1; omega)
  clear hS17
  simp at hcb_p0
  simp at hcb_w0
  simp at hcb_g0
  go_wp2_with (fail)
  refine (heldProfile_l (x := p.1) (Ty.up _ (mkProfile_read hM_g0).1 (by repeat (first | with_reducible exact Gro.refl _ | with_reducible exact Gro.refl_drew _ _ _ | with_reducible exact Gro.refl_drewN _ _ _ _ | assumption | with_reducible apply Gro.more | with_reducible apply Gro.alloc | with_reducible apply Gro.drew | with_reducible apply Gro.drewN))) (Ty.up _ (mkProfile_read hM_g0).2 (by repeat (first | with_reducible exact Gro.refl _ | with_reducible exact Gro.refl_drew _ _ _ | with_reducible exact Gro.refl_drewN _ _ _ _ | assumption | with_reducible apply Gro.more | with_reducible apply Gro.alloc | with_reducible apply Gro.drew | with_reducible apply Gro.drewN))) (by omega) (by omega)).mono ?_
  rintro e w1 ⟨rfl, os18, d18, rfl⟩
  go_wp2_with (fail)
  refine (toProfile_l (x := p0) (Ty.up _ p_p00 (by repeat (first | with_reducible exact Gro.refl _ | with_reducible exact Gro.refl_drew _ _ _ | with_reducible exact Gro.refl_drewN _ _ _ _ | assumption | with_reducible apply Gro.more | with_reducible apply Gro.alloc | with_reducible apply Gro.drew | with_reducible apply Gro.drewN))) (Ty.up _ p_p01 (by repeat (first | with_reducible exact Gro.refl _ | with_reducible exact Gro.refl_drew _ _ _ | with_reducible exact Gro.refl_drewN _ _ _ _ | assumption | with_reducible apply Gro.more | with_reducible apply Gro.alloc | with_reducible apply Gro.drew | with_reducible apply Gro.drewN))) (by omega)).mono ?_
  rintro e w1 ⟨A19_0, c19_0, A19_1, c19_1, rfl, hF19, os19, d19, rfl⟩
  go_wp2_with (fail)
  refine (toFrameS_l (xs := l) (Ty.up _ h_l (by repeat (first | with_reducible exact Gro.refl _ | with_reducible exact Gro.refl_drew _ _ _ | with_reducible exact Gro.refl_drewN _ _ _ _ | assumption | with_reducible apply Gro.more | with_reducible apply Gro.alloc | with_reducible apply Gro.drew | with_reducible apply Gro.drewN))) (by omega)).mono ?_
  rintro e w1 ⟨A20_0, c20_0, rfl, hF20, os20, d20, rfl⟩
  go_wp2_with (fail)
  refine (addStack_i (p := p0) (l := l) (n := n) (Ty.up _ (rdProfile hF19.read).1 (by repeat (first | with_reducible exact Gro.refl _ | with_reducible exact Gro.refl_drew _ _ _ | with_reducible exact Gro.refl_drewN _ _ _ _ | assumption | with_reducible apply Gro.more | with_reducible apply Gro.alloc | with_reducible apply Gro.drew | with_reducible apply Gro.drewN))) (Ty.up _ (rdProfile hF19.read).2 (by repeat (first | with_reducible exact Gro.refl _ | with_reducible exact Gro.refl_drew _ _ _ | with_reducible exact Gro.refl_drewN _ _ _ _ | assumption | with_reducible apply Gro.more | with_reducible apply Gro.alloc | with_reducible apply Gro.drew | with_reducible apply Gro.drewN))) (Ty.up _ hF20.read (by repeat (first | with_reducible exact Gro.refl _ | with_reducible exact Gro.refl_drew _ _ _ | with_reducible exact Gro.refl_drewN _ _ _ _ | assumption | with_reducible apply Gro.more | with_reducible apply Gro.alloc | with_reducible apply Gro.drew | with_reducible apply Gro.drewN))) (by omega) (by omega) (by omega)).mono ?_
  rw [hp.out]
  rintro e w1 ⟨B21_0, e21_0, B21_1, e21_1, rfl, hR21, os21, d21, rfl⟩
  go_wp2_with (fail)
  refine (eqProfile_l (x := p.1) (y := p.1) (Ty.up _ (rdProfile hR21.read).1 (by repeat (first | with_reducible exact Gro.refl _ | with_reducible exact Gro.refl_drew _ _ _ | with_reducible exact Gro.refl_drewN _ _ _ _ | assumption | with_reducible apply Gro.more | with_reducible apply Gro.alloc | with_reducible apply Gro.drew | with_reducible apply Gro.drewN))) (Ty.up _ (rdProfile hR21.read).2 (by repeat (first | with_reducible exact Gro.refl _ | with_reducible exact Gro.refl_drew _ _ _ | with_reducible exact Gro.refl_drewN _ _ _ _ | assumption | with_reducible apply Gro.more | with_reducible apply Gro.alloc | with_reducible apply Gro.drew | with_reducible apply Gro.drewN))) (Ty.up _ (rdProfile (Ty.read _ hO_w0_14_15_17)).1 (by repeat (first | with_reducible exact Gro.refl _ | with_reducible exact Gro.refl_drew _ _ _ | with_reducible exact Gro.refl_drewN _ _ _ _ | assumption | with_reducible apply Gro.more | with_reducible apply Gro.alloc | with_reducible apply Gro.drew | with_reducible apply Gro.drewN))) (Ty.up _ (rdProfile (Ty.read _ hO_w0_14_15_17)).2 (by repeat (first | with_reducible exact Gro.refl _ | with_reducible exact Gro.refl_drew _ _ _ | with_reducible exact Gro.refl_drewN _ _ _ _ | assumption | with_reducible apply Gro.more | with_reducible apply Gro.alloc | with_reducible apply Gro.drew | with_reducible apply Gro.drewN)))).mono ?_
  rintro e w1 ⟨rfl, os22, d22, rfl⟩
  go_wp2_with (fail)
  refine (heldProfile_l (x := p.1) (Ty.up _ (mkProfile_read hM_g0).1 (by repeat (first | with_reducible exact Gro.refl _ | with_reducible exact Gro.refl_drew _ _ _ | with_reducible exact Gro.refl_drewN _ _ _ _ | assumption | with_reducible apply Gro.more | with_reducible apply Gro.alloc | with_reducible apply Gro.drew | with_reducible apply Gro.drewN))) (Ty.up _ (mkProfile_read hM_g0).2 (by repeat (first | with_reducible exact Gro.refl _ | with_reducible exact Gro.refl_drew _ _ _ | with_reducible exact Gro.refl_drewN _ _ _ _ | assumption | with_reducible apply Gro.more | with_reducible apply Gro.alloc | with_reducible apply Gro.drew | with_reducible apply Gro.drewN))) (by omega) (by omega)).mono ?_
  rintro e w1 ⟨rfl, os23, d23, rfl⟩
  go_wp2
  go_ret
  exact ⟨rfl, (by repeat (first | with_reducible exact Gro.refl _ | with_reducible exact Gro.refl_drew _ _ _ | with_reducible exact Gro.refl_drewN _ _ _ _ | assumption | with_reducible apply Gro.more | with_reducible apply Gro.alloc | with_reducible apply Gro.drew | with_reducible apply Gro.drewN))⟩

set_option maxRecDepth 100000 in
theorem lifted (os : Os) (started : os.Started) (H : Type) (enc : TypeId × Value → H) :
    ReturnsInHanded {} Try.checked os 14 .any (Rows.fnExactAddStackSpec.pre6 enc Try.prog Try.f14 Rows.fnExactAddStackRow.domain false) (Rows.fnExactAddStackSpec.post enc Try.prog Try.f14 false true false false) := by
  refine returnsInHanded_of_change (C := Try.checked) own started (by kernel_rfl) Try.func14
    (ChangeSpec.witness6 (enc := enc) (C := Try.checked) false ⟨#[], #[.agg #[.slice none 0 0, .slice none 0 0], .slice none 0 0, .int .i64 0], []⟩ 8 (by kernel_rfl) (by kernel_rfl) (by kernel_rfl) (by kernel_rfl)) ?_
  intro W base args ds gs before hval0 hW hcnd _
  have hval : ∀ (j : Nat) t v, Try.f14.params[j]? = some t → args[j]? = some v → Value.okWide Try.prog W .any base t v := hval0
  have hW' := hW
  obtain ⟨p, q, hA0, hV, rfl, hfz, hnd⟩ := hW
  have hA : DataW.TrodAll enc Try.prog W 0 (fun _ => true) true Try.f14.params.toList args.toList ds p := hA0
  rw [Try.params14] at hA hval
  obtain ⟨v0, vs0, d0, ds0, p0, q0, hargs, rfl, rfl, h0, r0⟩ := trodAll_cons hA
  obtain ⟨v1, vs1, d1, ds1, p1, q1, rfl, rfl, rfl, h1, r1⟩ := trodAll_cons r0
  obtain ⟨v2, vs2, d2, ds2, p2, q2, rfl, rfl, rfl, h2, r2⟩ := trodAll_cons r1
  obtain ⟨rfl, rfl, rfl⟩ := trodAll_nil r2
  obtain rfl : args = #[v0, v1, v2] := by cases args; simp_all
  obtain ⟨rfl, rfl⟩ := trodVars_none hV
  have k0 := h0
  have lt0 : ∀ x ∈ p0, x.block < W.heap.size := by obtain ⟨m, hm⟩ := k0; exact DataW.trod_lt m _ _ _ hm
  obtain ⟨cs0, rfl⟩ := arg_agg Try.underlying73 (hval 0 73 v0 rfl rfl)
  obtain ⟨a0, w0⟩ := arg_open tProfile_opens h0
  have k1 := h1
  have lt1 : ∀ x ∈ p1, x.block < W.heap.size := by obtain ⟨m, hm⟩ := k1; exact DataW.trod_lt m _ _ _ hm
  obtain ⟨a1, w1⟩ := arg_open (opens_sl (e' := 100) Try.underlying68 (by kernel_rfl) (by decide) tFrame_opens) h1
  rw [arg_slice Try.underlying68 (hval 1 68 v1 rfl rfl)] at w1
  have k2 := h2
  have lt2 : ∀ x ∈ p2, x.block < W.heap.size := by obtain ⟨m, hm⟩ := k2; exact DataW.trod_lt m _ _ _ hm
  obtain ⟨a2, rfl, rfl, rfl, w2⟩ := open_int Try.underlying3 (hval 2 3 v2 rfl rfl) h2
  clear hA0 hval0
  refine (walk W cs0 a0 w0 v1 a1 w1 a2 (wf_bounds w2).1 (wf_bounds w2).2).mono fun e W' ⟨he, hgro⟩ => ?_
  subst he
  have bel := hgro.below
  exact ⟨_, rfl, _, _, _, [], _, [], hW', trodAll_mk1 (shut_bool Try.underlying4 _), (trodAll_cons_mk (Below.trod laidOut (by kernel_rfl) (of_decide_eq_true (by kernel_rfl)) k0 bel lt0) (trodAll_cons_mk (Below.trod laidOut (by kernel_rfl) (of_decide_eq_true (by kernel_rfl)) k1 bel lt1) (trodAll_cons_mk (Below.trod laidOut (by kernel_rfl) (of_decide_eq_true (by kernel_rfl)) k2 bel lt2) trodAll_mk0))), rfl, bel.frame _, fun h => by cases h⟩
theorem over : Rows.fnExactAddStackRow.holds Try.pinned (OpenSpec.ofChange Rows.fnExactAddStackSpec) :=
  OpenClaim.holds_of_wide 14 Try.f14 rfl rfl rfl rfl rfl rfl rfl ⟨rfl, rfl, rfl, rfl, rfl⟩ rfl rfl rfl rfl rfl (by kernel_rfl) Try.func14 (by kernel_rfl)
    (of_decide_eq_true (by kernel_rfl)) (by unfold Func.isWrapper; first | (rw [if_pos (by decide +kernel)]; kernel_rfl) | (rw [if_neg (by decide +kernel)]; exact ⟨rfl, rfl⟩))
    (fun os started H enc _ => lifted os started H enc)
/-- THE STATEMENT -/
theorem proved : Rows.FnExactAddStackSaid := over
#print axioms proved
end Go.Proofs.Ytlapempepfjkpaa.fnExactAddStack
