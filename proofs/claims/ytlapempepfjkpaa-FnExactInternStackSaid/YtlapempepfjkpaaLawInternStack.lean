/-
  The law FnExactInternStack answers true for every input: the program and the reference compute the same; the arguments stay; the result is of its own memory. No condition.
-/
import Derived.Test.YtlapempepfjkpaaRows
import Derived.Test.YtlapempepfjkpaaOpen
import Derived.Test.YtlapempepfjkpaaStacks3
import Derived.ShutString
import Derived.Deep.RegionHeld3
set_option linter.unusedVariables false
set_option linter.unusedSimpArgs false
namespace Go.Proofs.Ytlapempepfjkpaa.fnExactInternStack
open Go.ChangeShapes Go.WideShapes Go.ChangeAt Go.RowKit
open Go.ChangeMaps (open_string shut_string)
theorem own : ownKnob Try.prog.godebug = none := by kernel_rfl
theorem laidOut : laidOutB Try.prog = true := by kernel_rfl
theorem rdStacks {w : World} {B : Nat} {x : DStacks} {A0 : Option Addr} {c0 : Nat} (h : tStacks.R w B [.slice A0 x.Nodes.length c0] x) : (tNode.sl 104).R w B [.slice A0 x.Nodes.length c0] x.Nodes := by
  obtain ⟨A0', c0', hc, f0⟩ := tStacks_R h
  simp only [List.cons.injEq, Value.slice.injEq, true_and, and_true] at hc
  obtain ⟨rfl, rfl⟩ := hc
  exact f0
set_option maxRecDepth 100000 in
set_option maxHeartbeats 4000000 in
theorem walk (w : World) (cs_t : Array Value) (t : DStacks) (h_t : tStacks.R w w.heap.size cs_t.toList t) (v_l : Value) (l : List DFrame) (h_l : (tFrame.sl 100).R w w.heap.size [v_l] l) :
    Calls Try.prog 12 #[.agg cs_t, v_l] w fun e w' => e = .returned (.bool true) ∧ Gro w w' := by
  obtain ⟨A0, c0, hcs_t, p_t0⟩ := tStacks_R h_t
  obtain rfl := Array.toList_inj.1 (show cs_t.toList = (#[.slice A0 t.Nodes.length c0] : Array Value).toList from hcs_t)
  clear h_t hcs_t
  obtain ⟨A1, c1, rfl, hlc_l, hcm_l⟩ := sl_at h_l
  obtain ⟨n0, hn0⟩ : ∃ n, szStacks t = n := ⟨_, rfl⟩
  obtain ⟨n1, hn1⟩ : ∃ n, szL szFrame l = n := ⟨_, rfl⟩
  by_cases hz0 : (n0 : Int) ≤ 1048576
  case neg =>
    have e0 : szRes (1048576) (szStacks t) = -1 := by rw [hn0]; exact if_neg (by omega)
    clear hn0 hn1
    go_enter Try.func12, Try.ntmps12
    go_wp2_with (fail)
    refine (szStacks_l (x := t) (Ty.up _ p_t0 (by repeat (first | with_reducible exact Gro.refl _ | with_reducible exact Gro.refl_drew _ _ _ | with_reducible exact Gro.refl_drewN _ _ _ _ | assumption | with_reducible apply Gro.more | with_reducible apply Gro.alloc | with_reducible apply Gro.drew | with_reducible apply Gro.drewN))) (by omega) (by omega)).mono ?_
    rintro e w1 ⟨rfl, os0, d0, rfl⟩
    go_wp2
    go_ret
    exact ⟨rfl, (by repeat (first | with_reducible exact Gro.refl _ | with_reducible exact Gro.refl_drew _ _ _ | with_reducible exact Gro.refl_drewN _ _ _ _ | assumption | with_reducible apply Gro.more | with_reducible apply Gro.alloc | with_reducible apply Gro.drew | with_reducible apply Gro.drewN))⟩
  by_cases hz1 : (n0 : Int) + (n1 : Int) ≤ 1048576
  case neg =>
    have e0 : szRes (1048576) (szStacks t) = 1048576 - (n0 : Int) := by rw [hn0]; exact if_pos (by omega)
    have e1 : szRes (1048576 - (n0 : Int)) (szL szFrame l) = -1 := by rw [hn1]; exact if_neg (by omega)
    clear hn0 hn1
    go_enter Try.func12, Try.ntmps12
    go_wp2_with (fail)
    refine (szStacks_l (x := t) (Ty.up _ p_t0 (by repeat (first | with_reducible exact Gro.refl _ | with_reducible exact Gro.refl_drew _ _ _ | with_reducible exact Gro.refl_drewN _ _ _ _ | assumption | with_reducible apply Gro.more | with_reducible apply Gro.alloc | with_reducible apply Gro.drew | with_reducible apply Gro.drewN))) (by omega) (by omega)).mono ?_
    rintro e w1 ⟨rfl, os0, d0, rfl⟩
    go_wp2_with (fail)
    refine (szFrameS_l (xs := l) (Ty.up _ h_l (by repeat (first | with_reducible exact Gro.refl _ | with_reducible exact Gro.refl_drew _ _ _ | with_reducible exact Gro.refl_drewN _ _ _ _ | assumption | with_reducible apply Gro.more | with_reducible apply Gro.alloc | with_reducible apply Gro.drew | with_reducible apply Gro.drewN))) (by omega) (by omega)).mono ?_
    rintro e w1 ⟨rfl, os1, d1, rfl⟩
    go_wp2
    go_ret
    exact ⟨rfl, (by repeat (first | with_reducible exact Gro.refl _ | with_reducible exact Gro.refl_drew _ _ _ | with_reducible exact Gro.refl_drewN _ _ _ _ | assumption | with_reducible apply Gro.more | with_reducible apply Gro.alloc | with_reducible apply Gro.drew | with_reducible apply Gro.drewN))⟩
  have e0 : szRes (1048576) (szStacks t) = 1048576 - (n0 : Int) := by rw [hn0]; exact if_pos (by omega)
  have e1 : szRes (1048576 - (n0 : Int)) (szL szFrame l) = 1048576 - (n0 : Int) - (n1 : Int) := by rw [hn1]; exact if_pos (by omega)
  have hl_t0 : t.Nodes.length ≤ 1048576 := by have h := hn0; unfold szStacks at h; have := szL_len szNode t.Nodes; omega
  have hs_t : szStacks t ≤ 1048576 := by omega
  have hl_l : l.length ≤ 1048576 := by have h := hn1; have := szL_len szFrame l; omega
  have hs_l : szL szFrame l ≤ 1048576 := by omega
  have hcnt_t : cntStacks t ≤ 4194304 := by unfold cntStacks cntNodeS; omega
  have hcnt_l : cntFrameS l ≤ 4194304 := by unfold cntFrameS; omega
  have HN0 := Lib.hid hn0
  have HN1 := Lib.hid hn1
  clear hn0 hn1
  obtain ⟨p, hp, hpb0, hpb1⟩ : ∃ p, Hid (internStack t l = p) ∧ p.1.Nodes.length ≤ 2097152 ∧ cntStacks p.1 ≤ 8388608 := ⟨_, Lib.hid rfl, by have := internStack_len t l; omega, by have := internStack_len t l; unfold cntStacks cntNodeS; omega⟩
  go_enter Try.func12, Try.ntmps12
  go_wp2_with (fail)
  refine (szStacks_l (x := t) (Ty.up _ p_t0 (by repeat (first | with_reducible exact Gro.refl _ | with_reducible exact Gro.refl_drew _ _ _ | with_reducible exact Gro.refl_drewN _ _ _ _ | assumption | with_reducible apply Gro.more | with_reducible apply Gro.alloc | with_reducible apply Gro.drew | with_reducible apply Gro.drewN))) (by omega) (by omega)).mono ?_
  rintro e w1 ⟨rfl, os0, d0, rfl⟩
  go_wp2_with (fail)
  refine (szFrameS_l (xs := l) (Ty.up _ h_l (by repeat (first | with_reducible exact Gro.refl _ | with_reducible exact Gro.refl_drew _ _ _ | with_reducible exact Gro.refl_drewN _ _ _ _ | assumption | with_reducible apply Gro.more | with_reducible apply Gro.alloc | with_reducible apply Gro.drew | with_reducible apply Gro.drewN))) (by omega) (by omega)).mono ?_
  rintro e w1 ⟨rfl, os1, d1, rfl⟩
  go_wp2_with (fail)
  refine (toStacks_l (x := t) (Ty.up _ p_t0 (by repeat (first | with_reducible exact Gro.refl _ | with_reducible exact Gro.refl_drew _ _ _ | with_reducible exact Gro.refl_drewN _ _ _ _ | assumption | with_reducible apply Gro.more | with_reducible apply Gro.alloc | with_reducible apply Gro.drew | with_reducible apply Gro.drewN))) (by omega)).mono ?_
  rintro e w1 ⟨A3_0, c3_0, rfl, hF3, os3, d3, rfl⟩
  go_wp2_with (fail)
  refine (toFrameS_l (xs := l) (Ty.up _ h_l (by repeat (first | with_reducible exact Gro.refl _ | with_reducible exact Gro.refl_drew _ _ _ | with_reducible exact Gro.refl_drewN _ _ _ _ | assumption | with_reducible apply Gro.more | with_reducible apply Gro.alloc | with_reducible apply Gro.drew | with_reducible apply Gro.drewN))) (by omega)).mono ?_
  rintro e w1 ⟨A4_0, c4_0, rfl, hF4, os4, d4, rfl⟩
  go_wp2_with (fail)
  refine (internStack_s (t := t) (l := l) (Ty.up _ (rdStacks hF3.read) (by repeat (first | with_reducible exact Gro.refl _ | with_reducible exact Gro.refl_drew _ _ _ | with_reducible exact Gro.refl_drewN _ _ _ _ | assumption | with_reducible apply Gro.more | with_reducible apply Gro.alloc | with_reducible apply Gro.drew | with_reducible apply Gro.drewN))) (Ty.up _ hF4.read (by repeat (first | with_reducible exact Gro.refl _ | with_reducible exact Gro.refl_drew _ _ _ | with_reducible exact Gro.refl_drewN _ _ _ _ | assumption | with_reducible apply Gro.more | with_reducible apply Gro.alloc | with_reducible apply Gro.drew | with_reducible apply Gro.drewN))) (by omega) (by omega)).mono ?_
  rw [hp.out]
  rintro e w1 ⟨B5_0, e5_0, rfl, hR5, os5, d5, rfl⟩
  go_wp2_with (fail)
  refine (toStacks_l (x := t) (Ty.up _ p_t0 (by repeat (first | with_reducible exact Gro.refl _ | with_reducible exact Gro.refl_drew _ _ _ | with_reducible exact Gro.refl_drewN _ _ _ _ | assumption | with_reducible apply Gro.more | with_reducible apply Gro.alloc | with_reducible apply Gro.drew | with_reducible apply Gro.drewN))) (by omega)).mono ?_
  rintro e w1 ⟨A6_0, c6_0, rfl, hF6, os6, d6, rfl⟩
  go_wp2_with (fail)
  refine (toFrameS_l (xs := l) (Ty.up _ h_l (by repeat (first | with_reducible exact Gro.refl _ | with_reducible exact Gro.refl_drew _ _ _ | with_reducible exact Gro.refl_drewN _ _ _ _ | assumption | with_reducible apply Gro.more | with_reducible apply Gro.alloc | with_reducible apply Gro.drew | with_reducible apply Gro.drewN))) (by omega)).mono ?_
  rintro e w1 ⟨A7_0, c7_0, rfl, hF7, os7, d7, rfl⟩
  go_wp2_with (fail)
  refine (internStack_i (t := t) (l := l) (Ty.up _ (rdStacks hF6.read) (by repeat (first | with_reducible exact Gro.refl _ | with_reducible exact Gro.refl_drew _ _ _ | with_reducible exact Gro.refl_drewN _ _ _ _ | assumption | with_reducible apply Gro.more | with_reducible apply Gro.alloc | with_reducible apply Gro.drew | with_reducible apply Gro.drewN))) (Ty.up _ hF7.read (by repeat (first | with_reducible exact Gro.refl _ | with_reducible exact Gro.refl_drew _ _ _ | with_reducible exact Gro.refl_drewN _ _ _ _ | assumption | with_reducible apply Gro.more | with_reducible apply Gro.alloc | with_reducible apply Gro.drew | with_reducible apply Gro.drewN))) (by omega) (by omega)).mono ?_
  rw [hp.out]
  rintro e w1 ⟨B8_0, e8_0, rfl, hR8, os8, d8, rfl⟩
  go_wp2_with (fail)
  refine (eqStacks_l (x := p.1) (y := p.1) (Ty.up _ (rdStacks hR8.read) (by repeat (first | with_reducible exact Gro.refl _ | with_reducible exact Gro.refl_drew _ _ _ | with_reducible exact Gro.refl_drewN _ _ _ _ | assumption | with_reducible apply Gro.more | with_reducible apply Gro.alloc | with_reducible apply Gro.drew | with_reducible apply Gro.drewN))) (Ty.up _ (rdStacks hR5.read) (by repeat (first | with_reducible exact Gro.refl _ | with_reducible exact Gro.refl_drew _ _ _ | with_reducible exact Gro.refl_drewN _ _ _ _ | assumption | with_reducible apply Gro.more | with_reducible apply Gro.alloc | with_reducible apply Gro.drew | with_reducible apply Gro.drewN)))).mono ?_
  rintro e w1 ⟨rfl, os9, d9, rfl⟩
  go_wp2_with (fail)
  go_region_held3 (fun w' => w'.cell? ⟨w.heap.size + 1 + os0.size + os1.size + os3.size + os4.size + os5.size + 1 + os6.size, 0, none⟩ = some (.slice A6_0 t.Nodes.length c6_0) ∧ w'.cell? ⟨w.heap.size, 0, none⟩ = some (.slice A0 t.Nodes.length c0)) (simp [go_sem]) (first
      | (go_at_call 40; refine (toStacks_l (x := t) (Ty.up _ p_t0 (by repeat (first | with_reducible exact Gro.refl _ | with_reducible exact Gro.refl_drew _ _ _ | with_reducible exact Gro.refl_drewN _ _ _ _ | assumption | with_reducible apply Gro.more | with_reducible apply Gro.alloc | with_reducible apply Gro.drew | with_reducible apply Gro.drewN))) (by omega)).mono ?_; rintro e w1 ⟨A10_0, c10_0, rfl, hF10, os10, d10, rfl⟩)
      | (go_at_call 41; refine (eqStacks_l (x := t) (y := t) (Ty.up _ (rdStacks hF6.read) (by repeat (first | with_reducible exact Gro.refl _ | with_reducible exact Gro.refl_drew _ _ _ | with_reducible exact Gro.refl_drewN _ _ _ _ | assumption | with_reducible apply Gro.more | with_reducible apply Gro.alloc | with_reducible apply Gro.drew | with_reducible apply Gro.drewN))) (Ty.up _ (rdStacks hF10.read) (by repeat (first | with_reducible exact Gro.refl _ | with_reducible exact Gro.refl_drew _ _ _ | with_reducible exact Gro.refl_drewN _ _ _ _ | assumption | with_reducible apply Gro.more | with_reducible apply Gro.alloc | with_reducible apply Gro.drew | with_reducible apply Gro.drewN)))).mono ?_; rintro e w1 ⟨rfl, os11, d11, rfl⟩))
  go_wp2_with (fail)
  refine (toFrameS_l (xs := l) (Ty.up _ h_l (by repeat (first | with_reducible exact Gro.refl _ | with_reducible exact Gro.refl_drew _ _ _ | with_reducible exact Gro.refl_drewN _ _ _ _ | assumption | with_reducible apply Gro.more | with_reducible apply Gro.alloc | with_reducible apply Gro.drew | with_reducible apply Gro.drewN))) (by omega)).mono ?_
  rintro e w1 ⟨A12_0, c12_0, rfl, hF12, os12, d12, rfl⟩
  go_wp2_with (fail)
  refine (eqFrameS_l (xs := l) (ys := l) (Ty.up _ hF7.read (by repeat (first | with_reducible exact Gro.refl _ | with_reducible exact Gro.refl_drew _ _ _ | with_reducible exact Gro.refl_drewN _ _ _ _ | assumption | with_reducible apply Gro.more | with_reducible apply Gro.alloc | with_reducible apply Gro.drew | with_reducible apply Gro.drewN))) (Ty.up _ hF12.read (by repeat (first | with_reducible exact Gro.refl _ | with_reducible exact Gro.refl_drew _ _ _ | with_reducible exact Gro.refl_drewN _ _ _ _ | assumption | with_reducible apply Gro.more | with_reducible apply Gro.alloc | with_reducible apply Gro.drew | with_reducible apply Gro.drewN)))).mono ?_
  rintro e w1 ⟨rfl, os13, d13, rfl⟩
  go_wp2_with (fail)
  obtain ⟨S_w0, hO_w0, hN_w0, hL_w0⟩ := hR5
  have hU_w0 := Ty.ltO _ hO_w0
  obtain ⟨S_x_t, hO_x_t, hN_x_t, hL_x_t⟩ := hF6
  have hU_x_t := Ty.ltO _ hO_x_t
  obtain ⟨S_x_l, hO_x_l, hN_x_l, hL_x_l⟩ := hF7
  have hU_x_l := Ty.ltO _ hO_x_l
  obtain ⟨S_g0, hO_g0, hN_g0, hL_g0⟩ := hR8
  have hU_g0 := Ty.ltO _ hO_g0
  go_wp2_with (fail)
  refine (markStacks_l (x := t) (Ty.groO _ hO_x_t (by repeat (first | with_reducible exact Gro.refl _ | with_reducible exact Gro.refl_drew _ _ _ | with_reducible exact Gro.refl_drewN _ _ _ _ | assumption | with_reducible apply Gro.more | with_reducible apply Gro.alloc | with_reducible apply Gro.drew | with_reducible apply Gro.drewN))) hN_x_t (by omega) (by omega)).mono ?_
  rintro e w14 ⟨rfl, hM_x_t, hS14⟩
  have hO_w0_14 := keepOnly _ hO_w0 hS14 (by repeat (first | with_reducible exact Gro.refl _ | with_reducible exact Gro.refl_drew _ _ _ | with_reducible exact Gro.refl_drewN _ _ _ _ | assumption | with_reducible apply Gro.more | with_reducible apply Gro.alloc | with_reducible apply Gro.drew | with_reducible apply Gro.drewN)) (fun b hb hm => by have q1 := hU_w0 b hb; have q2 := hL_x_t b hm; simp at q1 q2; omega)
  have hO_x_l_14 := keepOnly _ hO_x_l hS14 (by repeat (first | with_reducible exact Gro.refl _ | with_reducible exact Gro.refl_drew _ _ _ | with_reducible exact Gro.refl_drewN _ _ _ _ | assumption | with_reducible apply Gro.more | with_reducible apply Gro.alloc | with_reducible apply Gro.drew | with_reducible apply Gro.drewN)) (fun b hb hm => by have q1 := hL_x_l b hb; have q2 := hU_x_t b hm; simp at q1 q2; omega)
  have hO_g0_14 := keepOnly _ hO_g0 hS14 (by repeat (first | with_reducible exact Gro.refl _ | with_reducible exact Gro.refl_drew _ _ _ | with_reducible exact Gro.refl_drewN _ _ _ _ | assumption | with_reducible apply Gro.more | with_reducible apply Gro.alloc | with_reducible apply Gro.drew | with_reducible apply Gro.drewN)) (fun b hb hm => by have q1 := hL_g0 b hb; have q2 := hU_x_t b hm; simp at q1 q2; omega)
  have hc14_t_0 : w14.cell? ⟨w.heap.size, 0, none⟩ = some (.slice A0 t.Nodes.length c0) := (hS14.cell (by simp <;> omega) (fun hm => by have q1 := hL_x_t _ hm; simp at q1 <;> omega) 0).trans (by simp [go_sem])
  have hcb_t : w.heap.size < w14.heap.size := Nat.lt_of_lt_of_le (by simp <;> omega) hS14.size
  have hc14_w0_0 : w14.cell? ⟨w.heap.size + 1 + os0.size + os1.size + os3.size + os4.size + os5.size, 0, none⟩ = some (.slice B5_0 p.1.Nodes.length e5_0) := (hS14.cell (by simp <;> omega) (fun hm => by have q1 := hL_x_t _ hm; simp at q1 <;> omega) 0).trans (by simp [go_sem])
  have hcb_w0 : w.heap.size + 1 + os0.size + os1.size + os3.size + os4.size + os5.size < w14.heap.size := Nat.lt_of_lt_of_le (by simp <;> omega) hS14.size
  have hc14_g0_0 : w14.cell? ⟨w.heap.size + 1 + os0.size + os1.size + os3.size + os4.size + os5.size + 1 + os6.size + 1 + os7.size + os8.size, 0, none⟩ = some (.slice B8_0 p.1.Nodes.length e8_0) := (hS14.cell (by simp <;> omega) (fun hm => by have q1 := hU_x_t _ hm; simp at q1 <;> omega) 0).trans (by simp [go_sem])
  have hcb_g0 : w.heap.size + 1 + os0.size + os1.size + os3.size + os4.size + os5.size + 1 + os6.size + 1 + os7.size + os8.size < w14.heap.size := Nat.lt_of_lt_of_le (by simp <;> omega) hS14.size
  obtain ⟨os14, d14, rfl⟩ := hS14.gro (W0 := w) (by repeat (first | with_reducible exact Gro.refl _ | with_reducible exact Gro.refl_drew _ _ _ | with_reducible exact Gro.refl_drewN _ _ _ _ | assumption | with_reducible apply Gro.more | with_reducible apply Gro.alloc | with_reducible apply Gro.drew | with_reducible apply Gro.drewN)) (fun b hb => by have q1 := hL_x_t b hb; simp at q1; omega)
  clear hS14
  simp at hcb_t
  simp at hcb_w0
  simp at hcb_g0
  go_wp2_with (fail)
  refine (markFrameS_l (xs := l) (Ty.groO _ hO_x_l_14 (by repeat (first | with_reducible exact Gro.refl _ | with_reducible exact Gro.refl_drew _ _ _ | with_reducible exact Gro.refl_drewN _ _ _ _ | assumption | with_reducible apply Gro.more | with_reducible apply Gro.alloc | with_reducible apply Gro.drew | with_reducible apply Gro.drewN))) hN_x_l (by omega) (by omega)).mono ?_
  rintro e w15 ⟨rfl, hM_x_l, hS15⟩
  have hO_w0_14_15 := keepOnly _ hO_w0_14 hS15 (by repeat (first | with_reducible exact Gro.refl _ | with_reducible exact Gro.refl_drew _ _ _ | with_reducible exact Gro.refl_drewN _ _ _ _ | assumption | with_reducible apply Gro.more | with_reducible apply Gro.alloc | with_reducible apply Gro.drew | with_reducible apply Gro.drewN)) (fun b hb hm => by have q1 := hU_w0 b hb; have q2 := hL_x_l b hm; simp at q1 q2; omega)
  have hO_g0_14_15 := keepOnly _ hO_g0_14 hS15 (by repeat (first | with_reducible exact Gro.refl _ | with_reducible exact Gro.refl_drew _ _ _ | with_reducible exact Gro.refl_drewN _ _ _ _ | assumption | with_reducible apply Gro.more | with_reducible apply Gro.alloc | with_reducible apply Gro.drew | with_reducible apply Gro.drewN)) (fun b hb hm => by have q1 := hL_g0 b hb; have q2 := hU_x_l b hm; simp at q1 q2; omega)
  have hc15_t_0 : w15.cell? ⟨w.heap.size, 0, none⟩ = some (.slice A0 t.Nodes.length c0) := (hS15.cell (by simp <;> omega) (fun hm => by have q1 := hL_x_l _ hm; simp at q1 <;> omega) 0).trans (by first | exact hc14_t_0 | exact gro_keeps hc14_t_0 _ _ | simp [go_sem, hc14_t_0, hcb_t])
  replace hcb_t : w.heap.size < w15.heap.size := Nat.lt_of_lt_of_le (by simp <;> omega) hS15.size
  have hc15_w0_0 : w15.cell? ⟨w.heap.size + 1 + os0.size + os1.size + os3.size + os4.size + os5.size, 0, none⟩ = some (.slice B5_0 p.1.Nodes.length e5_0) := (hS15.cell (by simp <;> omega) (fun hm => by have q1 := hL_x_l _ hm; simp at q1 <;> omega) 0).trans (by first | exact hc14_w0_0 | exact gro_keeps hc14_w0_0 _ _ | simp [go_sem, hc14_w0_0, hcb_w0])
  replace hcb_w0 : w.heap.size + 1 + os0.size + os1.size + os3.size + os4.size + os5.size < w15.heap.size := Nat.lt_of_lt_of_le (by simp <;> omega) hS15.size
  have hc15_g0_0 : w15.cell? ⟨w.heap.size + 1 + os0.size + os1.size + os3.size + os4.size + os5.size + 1 + os6.size + 1 + os7.size + os8.size, 0, none⟩ = some (.slice B8_0 p.1.Nodes.length e8_0) := (hS15.cell (by simp <;> omega) (fun hm => by have q1 := hU_x_l _ hm; simp at q1 <;> omega) 0).trans (by first | exact hc14_g0_0 | exact gro_keeps hc14_g0_0 _ _ | simp [go_sem, hc14_g0_0, hcb_g0])
  replace hcb_g0 : w.heap.size + 1 + os0.size + os1.size + os3.size + os4.size + os5.size + 1 + os6.size + 1 + os7.size + os8.size < w15.heap.size := Nat.lt_of_lt_of_le (by simp <;> omega) hS15.size
  clear hc14_t_0 hc14_w0_0 hc14_g0_0
  obtain ⟨os15, d15, rfl⟩ := hS15.gro (W0 := w) (by repeat (first | with_reducible exact Gro.refl _ | with_reducible exact Gro.refl_drew _ _ _ | with_reducible exact Gro.refl_drewN _ _ _ _ | assumption | with_reducible apply Gro.more | with_reducible apply Gro.alloc | with_reducible apply Gro.drew | with_reducible apply Gro.drewN)) (fun b hb => by have q1 := hL_x_l b hb; simp at q1; omega)
  clear hS15
  simp at hcb_t
  simp at hcb_w0
  simp at hcb_g0
  go_wp2_with (fail)
  refine (eqStacks_l (x := p.1) (y := p.1) (Ty.up _ (rdStacks (Ty.read _ hO_g0_14_15)) (by repeat (first | with_reducible exact Gro.refl _ | with_reducible exact Gro.refl_drew _ _ _ | with_reducible exact Gro.refl_drewN _ _ _ _ | assumption | with_reducible apply Gro.more | with_reducible apply Gro.alloc | with_reducible apply Gro.drew | with_reducible apply Gro.drewN))) (Ty.up _ (rdStacks (Ty.read _ hO_w0_14_15)) (by repeat (first | with_reducible exact Gro.refl _ | with_reducible exact Gro.refl_drew _ _ _ | with_reducible exact Gro.refl_drewN _ _ _ _ | assumption | with_reducible apply Gro.more | with_reducible apply Gro.alloc | with_reducible apply Gro.drew | with_reducible apply Gro.drewN)))).mono ?_
  rintro e w1 ⟨rfl, os16, d16, rfl⟩
  go_wp2_with (fail)
  refine (markStacks_l (x := p.1) (Ty.groO _ hO_g0_14_15 (by repeat (first | with_reducible exact Gro.refl _ | with_reducible exact Gro.refl_drew _ _ _ | with_reducible exact Gro.refl_drewN _ _ _ _ | assumption | with_reducible apply Gro.more | with_reducible apply Gro.alloc | with_reducible apply Gro.drew | with_reducible apply Gro.drewN))) hN_g0 (by omega) (by omega)).mono ?_
  rintro e w17 ⟨rfl, hM_g0, hS17⟩
  have hO_w0_14_15_17 := keepOnly _ hO_w0_14_15 hS17 (by repeat (first | with_reducible exact Gro.refl _ | with_reducible exact Gro.refl_drew _ _ _ | with_reducible exact Gro.refl_drewN _ _ _ _ | assumption | with_reducible apply Gro.more | with_reducible apply Gro.alloc | with_reducible apply Gro.drew | with_reducible apply Gro.drewN)) (fun b hb hm => by have q1 := hU_w0 b hb; have q2 := hL_g0 b hm; simp at q1 q2; omega)
  have hc17_t_0 : w17.cell? ⟨w.heap.size, 0, none⟩ = some (.slice A0 t.Nodes.length c0) := (hS17.cell (by simp <;> omega) (fun hm => by have q1 := hL_g0 _ hm; simp at q1 <;> omega) 0).trans (by first | exact hc15_t_0 | exact gro_keeps hc15_t_0 _ _ | simp [go_sem, hc15_t_0, hcb_t])
  replace hcb_t : w.heap.size < w17.heap.size := Nat.lt_of_lt_of_le (by simp <;> omega) hS17.size
  have hc17_w0_0 : w17.cell? ⟨w.heap.size + 1 + os0.size + os1.size + os3.size + os4.size + os5.size, 0, none⟩ = some (.slice B5_0 p.1.Nodes.length e5_0) := (hS17.cell (by simp <;> omega) (fun hm => by have q1 := hL_g0 _ hm; simp at q1 <;> omega) 0).trans (by first | exact hc15_w0_0 | exact gro_keeps hc15_w0_0 _ _ | simp [go_sem, hc15_w0_0, hcb_w0])
  replace hcb_w0 : w.heap.size + 1 + os0.size + os1.size + os3.size + os4.size + os5.size < w17.heap.size := Nat.lt_of_lt_of_le (by simp <;> omega) hS17.size
  have hc17_g0_0 : w17.cell? ⟨w.heap.size + 1 + os0.size + os1.size + os3.size + os4.size + os5.size + 1 + os6.size + 1 + os7.size + os8.size, 0, none⟩ = some (.slice B8_0 p.1.Nodes.length e8_0) := (hS17.cell (by simp <;> omega) (fun hm => by have q1 := hU_g0 _ hm; simp at q1 <;> omega) 0).trans (by first | exact hc15_g0_0 | exact gro_keeps hc15_g0_0 _ _ | simp [go_sem, hc15_g0_0, hcb_g0])
  replace hcb_g0 : w.heap.size + 1 + os0.size + os1.size + os3.size + os4.size + os5.size + 1 + os6.size + 1 + os7.size + os8.size < w17.heap.size := Nat.lt_of_lt_of_le (by simp <;> omega) hS17.size
  clear hc15_t_0 hc15_w0_0 hc15_g0_0
  obtain ⟨os17, d17, rfl⟩ := hS17.gro (W0 := w) (by repeat (first | with_reducible exact Gro.refl _ | with_reducible exact Gro.refl_drew _ _ _ | with_reducible exact Gro.refl_drewN _ _ _ _ | assumption | with_reducible apply Gro.more | with_reducible apply Gro.alloc | with_reducible apply Gro.drew | with_reducible apply Gro.drewN)) (fun b hb => by have q1 := hL_g0 b hb; simp at q1; omega)
  clear hS17
  simp at hcb_t
  simp at hcb_w0
  simp at hcb_g0
  go_wp2_with (fail)
  refine (heldStacks_l (x := p.1) (Ty.up _ (mkStacks_read hM_g0) (by repeat (first | with_reducible exact Gro.refl _ | with_reducible exact Gro.refl_drew _ _ _ | with_reducible exact Gro.refl_drewN _ _ _ _ | assumption | with_reducible apply Gro.more | with_reducible apply Gro.alloc | with_reducible apply Gro.drew | with_reducible apply Gro.drewN))) (by omega) (by omega)).mono ?_
  rintro e w1 ⟨rfl, os18, d18, rfl⟩
  go_wp2_with (fail)
  refine (toStacks_l (x := t) (Ty.up _ p_t0 (by repeat (first | with_reducible exact Gro.refl _ | with_reducible exact Gro.refl_drew _ _ _ | with_reducible exact Gro.refl_drewN _ _ _ _ | assumption | with_reducible apply Gro.more | with_reducible apply Gro.alloc | with_reducible apply Gro.drew | with_reducible apply Gro.drewN))) (by omega)).mono ?_
  rintro e w1 ⟨A19_0, c19_0, rfl, hF19, os19, d19, rfl⟩
  go_wp2_with (fail)
  refine (toFrameS_l (xs := l) (Ty.up _ h_l (by repeat (first | with_reducible exact Gro.refl _ | with_reducible exact Gro.refl_drew _ _ _ | with_reducible exact Gro.refl_drewN _ _ _ _ | assumption | with_reducible apply Gro.more | with_reducible apply Gro.alloc | with_reducible apply Gro.drew | with_reducible apply Gro.drewN))) (by omega)).mono ?_
  rintro e w1 ⟨A20_0, c20_0, rfl, hF20, os20, d20, rfl⟩
  go_wp2_with (fail)
  refine (internStack_i (t := t) (l := l) (Ty.up _ (rdStacks hF19.read) (by repeat (first | with_reducible exact Gro.refl _ | with_reducible exact Gro.refl_drew _ _ _ | with_reducible exact Gro.refl_drewN _ _ _ _ | assumption | with_reducible apply Gro.more | with_reducible apply Gro.alloc | with_reducible apply Gro.drew | with_reducible apply Gro.drewN))) (Ty.up _ hF20.read (by repeat (first | with_reducible exact Gro.refl _ | with_reducible exact Gro.refl_drew _ _ _ | with_reducible exact Gro.refl_drewN _ _ _ _ | assumption | with_reducible apply Gro.more | with_reducible apply Gro.alloc | with_reducible apply Gro.drew | with_reducible apply Gro.drewN))) (by omega) (by omega)).mono ?_
  rw [hp.out]
  rintro e w1 ⟨B21_0, e21_0, rfl, hR21, os21, d21, rfl⟩
  go_wp2_with (fail)
  refine (eqStacks_l (x := p.1) (y := p.1) (Ty.up _ (rdStacks hR21.read) (by repeat (first | with_reducible exact Gro.refl _ | with_reducible exact Gro.refl_drew _ _ _ | with_reducible exact Gro.refl_drewN _ _ _ _ | assumption | with_reducible apply Gro.more | with_reducible apply Gro.alloc | with_reducible apply Gro.drew | with_reducible apply Gro.drewN))) (Ty.up _ (rdStacks (Ty.read _ hO_w0_14_15_17)) (by repeat (first | with_reducible exact Gro.refl _ | with_reducible exact Gro.refl_drew _ _ _ | with_reducible exact Gro.refl_drewN _ _ _ _ | assumption | with_reducible apply Gro.more | with_reducible apply Gro.alloc | with_reducible apply Gro.drew | with_reducible apply Gro.drewN)))).mono ?_
  rintro e w1 ⟨rfl, os22, d22, rfl⟩
  go_wp2_with (fail)
  refine (heldStacks_l (x := p.1) (Ty.up _ (mkStacks_read hM_g0) (by repeat (first | with_reducible exact Gro.refl _ | with_reducible exact Gro.refl_drew _ _ _ | with_reducible exact Gro.refl_drewN _ _ _ _ | assumption | with_reducible apply Gro.more | with_reducible apply Gro.alloc | with_reducible apply Gro.drew | with_reducible apply Gro.drewN))) (by omega) (by omega)).mono ?_
  rintro e w1 ⟨rfl, os23, d23, rfl⟩
  go_wp2
  go_ret
  exact ⟨rfl, (by repeat (first | with_reducible exact Gro.refl _ | with_reducible exact Gro.refl_drew _ _ _ | with_reducible exact Gro.refl_drewN _ _ _ _ | assumption | with_reducible apply Gro.more | with_reducible apply Gro.alloc | with_reducible apply Gro.drew | with_reducible apply Gro.drewN))⟩

set_option maxRecDepth 100000 in
theorem lifted (os : Os) (started : os.Started) (H : Type) (enc : TypeId × Value → H) :
    ReturnsInHanded {} Try.checked os 12 .any (Rows.fnExactInternStackSpec.pre6 enc Try.prog Try.f12 Rows.fnExactInternStackRow.domain false) (Rows.fnExactInternStackSpec.post enc Try.prog Try.f12 false true false false) := by
  refine returnsInHanded_of_change (C := Try.checked) own started (by kernel_rfl) Try.func12
    (ChangeSpec.witness6 (enc := enc) (C := Try.checked) false ⟨#[], #[.agg #[.slice none 0 0], .slice none 0 0], []⟩ 8 (by kernel_rfl) (by kernel_rfl) (by kernel_rfl) (by kernel_rfl)) ?_
  intro W base args ds gs before hval0 hW hcnd _
  have hval : ∀ (j : Nat) t v, Try.f12.params[j]? = some t → args[j]? = some v → Value.okWide Try.prog W .any base t v := hval0
  have hW' := hW
  obtain ⟨p, q, hA0, hV, rfl, hfz, hnd⟩ := hW
  have hA : DataW.TrodAll enc Try.prog W 0 (fun _ => true) true Try.f12.params.toList args.toList ds p := hA0
  rw [Try.params12] at hA hval
  obtain ⟨v0, vs0, d0, ds0, p0, q0, hargs, rfl, rfl, h0, r0⟩ := trodAll_cons hA
  obtain ⟨v1, vs1, d1, ds1, p1, q1, rfl, rfl, rfl, h1, r1⟩ := trodAll_cons r0
  obtain ⟨rfl, rfl, rfl⟩ := trodAll_nil r1
  obtain rfl : args = #[v0, v1] := by cases args; simp_all
  obtain ⟨rfl, rfl⟩ := trodVars_none hV
  have k0 := h0
  have lt0 : ∀ x ∈ p0, x.block < W.heap.size := by obtain ⟨m, hm⟩ := k0; exact DataW.trod_lt m _ _ _ hm
  obtain ⟨cs0, rfl⟩ := arg_agg Try.underlying62 (hval 0 62 v0 rfl rfl)
  obtain ⟨a0, w0⟩ := arg_open tStacks_opens h0
  have k1 := h1
  have lt1 : ∀ x ∈ p1, x.block < W.heap.size := by obtain ⟨m, hm⟩ := k1; exact DataW.trod_lt m _ _ _ hm
  obtain ⟨a1, w1⟩ := arg_open (opens_sl (e' := 100) Try.underlying68 (by kernel_rfl) (by decide) tFrame_opens) h1
  rw [arg_slice Try.underlying68 (hval 1 68 v1 rfl rfl)] at w1
  clear hA0 hval0
  refine (walk W cs0 a0 w0 v1 a1 w1).mono fun e W' ⟨he, hgro⟩ => ?_
  subst he
  have bel := hgro.below
  exact ⟨_, rfl, _, _, _, [], _, [], hW', trodAll_mk1 (shut_bool Try.underlying4 _), (trodAll_cons_mk (Below.trod laidOut (by kernel_rfl) (of_decide_eq_true (by kernel_rfl)) k0 bel lt0) (trodAll_cons_mk (Below.trod laidOut (by kernel_rfl) (of_decide_eq_true (by kernel_rfl)) k1 bel lt1) trodAll_mk0)), rfl, bel.frame _, fun h => by cases h⟩
theorem over : Rows.fnExactInternStackRow.holds Try.pinned (OpenSpec.ofChange Rows.fnExactInternStackSpec) :=
  OpenClaim.holds_of_wide 12 Try.f12 rfl rfl rfl rfl rfl rfl rfl ⟨rfl, rfl, rfl, rfl, rfl⟩ rfl rfl rfl rfl rfl (by kernel_rfl) Try.func12 (by kernel_rfl)
    (of_decide_eq_true (by kernel_rfl)) (by unfold Func.isWrapper; first | (rw [if_pos (by decide +kernel)]; kernel_rfl) | (rw [if_neg (by decide +kernel)]; exact ⟨rfl, rfl⟩))
    (fun os started H enc _ => lifted os started H enc)
/-- THE STATEMENT -/
theorem proved : Rows.FnExactInternStackSaid := over
#print axioms proved
end Go.Proofs.Ytlapempepfjkpaa.fnExactInternStack
