/-
  The law FnExactStackAt answers true for every input: the program and the reference compute the same; the arguments stay; the result is of its own memory. No condition.
-/
import Derived.Test.YtlapempepfjkpaaRows
import Derived.Test.YtlapempepfjkpaaOpen
import Derived.Test.YtlapempepfjkpaaStacks3
import Derived.ShutString
import Derived.Deep.RegionHeld3
set_option linter.unusedVariables false
set_option linter.unusedSimpArgs false
namespace Go.Proofs.Ytlapempepfjkpaa.fnExactStackAt
open Go.ChangeShapes Go.WideShapes Go.ChangeAt Go.RowKit
open Go.ChangeMaps (open_string shut_string)
theorem own : ownKnob Try.prog.godebug = none := by kernel_rfl
theorem laidOut : laidOutB Try.prog = true := by kernel_rfl
theorem rdStacks {w : World} {B : Nat} {x : DStacks} {A0 : Option Addr} {c0 : Nat} (h : tStacks.R w B [.slice A0 x.Nodes.length c0] x) : (tNode.sl 104).R w B [.slice A0 x.Nodes.length c0] x.Nodes := by
  obtain ⟨A0', c0', hc, f0⟩ := tStacks_R h
  simp only [List.cons.injEq, Value.slice.injEq, true_and, and_true] at hc
  obtain ⟨rfl, rfl⟩ := hc
  exact f0
set_option maxRecDepth 100000 in
set_option maxHeartbeats 4000000 in
theorem walk (w : World) (cs_t : Array Value) (t : DStacks) (h_t : tStacks.R w w.heap.size cs_t.toList t) (k : Int) (hb1_k : -9223372036854775808 ≤ k) (hb2_k : k ≤ 9223372036854775807) :
    Calls Try.prog 10 #[.agg cs_t, .int .i64 k] w fun e w' => e = .returned (.bool true) ∧ Gro w w' := by
  obtain ⟨A0, c0, hcs_t, p_t0⟩ := tStacks_R h_t
  obtain rfl := Array.toList_inj.1 (show cs_t.toList = (#[.slice A0 t.Nodes.length c0] : Array Value).toList from hcs_t)
  clear h_t hcs_t
  obtain ⟨n0, hn0⟩ : ∃ n, szStacks t = n := ⟨_, rfl⟩
  by_cases hz0 : (n0 : Int) ≤ 1048576
  case neg =>
    have e0 : szRes (1048576) (szStacks t) = -1 := by rw [hn0]; exact if_neg (by omega)
    clear hn0
    go_enter Try.func10, Try.ntmps10
    go_wp2_with (fail)
    refine (szStacks_l (x := t) (Ty.up _ p_t0 (by repeat (first | with_reducible exact Gro.refl _ | with_reducible exact Gro.refl_drew _ _ _ | with_reducible exact Gro.refl_drewN _ _ _ _ | assumption | with_reducible apply Gro.more | with_reducible apply Gro.alloc | with_reducible apply Gro.drew | with_reducible apply Gro.drewN))) (by omega) (by omega)).mono ?_
    rintro e w1 ⟨rfl, os0, d0, rfl⟩
    go_wp2
    go_ret
    exact ⟨rfl, (by repeat (first | with_reducible exact Gro.refl _ | with_reducible exact Gro.refl_drew _ _ _ | with_reducible exact Gro.refl_drewN _ _ _ _ | assumption | with_reducible apply Gro.more | with_reducible apply Gro.alloc | with_reducible apply Gro.drew | with_reducible apply Gro.drewN))⟩
  have e0 : szRes (1048576) (szStacks t) = 1048576 - (n0 : Int) := by rw [hn0]; exact if_pos (by omega)
  have hl_t0 : t.Nodes.length ≤ 1048576 := by have h := hn0; unfold szStacks at h; have := szL_len szNode t.Nodes; omega
  have hs_t : szStacks t ≤ 1048576 := by omega
  have hcnt_t : cntStacks t ≤ 4194304 := by unfold cntStacks cntNodeS; omega
  have HN0 := Lib.hid hn0
  clear hn0
  obtain ⟨p, hp, hpb0⟩ : ∃ p, Hid (stackAt t k = p) ∧ p.length ≤ 1048576 ∧ cntFrameS p ≤ 4194304 := ⟨_, Lib.hid rfl, ⟨Nat.le_trans (stackAt_len t k) hl_t0, by have := stackAt_len t k; unfold cntFrameS; omega⟩⟩
  go_enter Try.func10, Try.ntmps10
  go_wp2_with (fail)
  refine (szStacks_l (x := t) (Ty.up _ p_t0 (by repeat (first | with_reducible exact Gro.refl _ | with_reducible exact Gro.refl_drew _ _ _ | with_reducible exact Gro.refl_drewN _ _ _ _ | assumption | with_reducible apply Gro.more | with_reducible apply Gro.alloc | with_reducible apply Gro.drew | with_reducible apply Gro.drewN))) (by omega) (by omega)).mono ?_
  rintro e w1 ⟨rfl, os0, d0, rfl⟩
  go_wp2_with (fail)
  refine (toStacks_l (x := t) (Ty.up _ p_t0 (by repeat (first | with_reducible exact Gro.refl _ | with_reducible exact Gro.refl_drew _ _ _ | with_reducible exact Gro.refl_drewN _ _ _ _ | assumption | with_reducible apply Gro.more | with_reducible apply Gro.alloc | with_reducible apply Gro.drew | with_reducible apply Gro.drewN))) (by omega)).mono ?_
  rintro e w1 ⟨A2_0, c2_0, rfl, hF2, os2, d2, rfl⟩
  go_wp2_with (fail)
  refine (stackAt_s (t := t) (k := k) (Ty.up _ (rdStacks hF2.read) (by repeat (first | with_reducible exact Gro.refl _ | with_reducible exact Gro.refl_drew _ _ _ | with_reducible exact Gro.refl_drewN _ _ _ _ | assumption | with_reducible apply Gro.more | with_reducible apply Gro.alloc | with_reducible apply Gro.drew | with_reducible apply Gro.drewN))) (by omega) ⟨hb1_k, hb2_k⟩).mono ?_
  rw [hp.out]
  rintro e w1 ⟨B3_0, e3_0, rfl, hR3, os3, d3, rfl⟩
  go_wp2_with (fail)
  refine (toStacks_l (x := t) (Ty.up _ p_t0 (by repeat (first | with_reducible exact Gro.refl _ | with_reducible exact Gro.refl_drew _ _ _ | with_reducible exact Gro.refl_drewN _ _ _ _ | assumption | with_reducible apply Gro.more | with_reducible apply Gro.alloc | with_reducible apply Gro.drew | with_reducible apply Gro.drewN))) (by omega)).mono ?_
  rintro e w1 ⟨A4_0, c4_0, rfl, hF4, os4, d4, rfl⟩
  go_wp2_with (fail)
  refine (stackAt_i (t := t) (k := k) (Ty.up _ (rdStacks hF4.read) (by repeat (first | with_reducible exact Gro.refl _ | with_reducible exact Gro.refl_drew _ _ _ | with_reducible exact Gro.refl_drewN _ _ _ _ | assumption | with_reducible apply Gro.more | with_reducible apply Gro.alloc | with_reducible apply Gro.drew | with_reducible apply Gro.drewN))) (by omega)).mono ?_
  rw [hp.out]
  rintro e w1 ⟨B5_0, e5_0, rfl, hR5, os5, d5, rfl⟩
  go_wp2_with (fail)
  refine (eqFrameS_l (xs := p) (ys := p) (Ty.up _ hR5.read (by repeat (first | with_reducible exact Gro.refl _ | with_reducible exact Gro.refl_drew _ _ _ | with_reducible exact Gro.refl_drewN _ _ _ _ | assumption | with_reducible apply Gro.more | with_reducible apply Gro.alloc | with_reducible apply Gro.drew | with_reducible apply Gro.drewN))) (Ty.up _ hR3.read (by repeat (first | with_reducible exact Gro.refl _ | with_reducible exact Gro.refl_drew _ _ _ | with_reducible exact Gro.refl_drewN _ _ _ _ | assumption | with_reducible apply Gro.more | with_reducible apply Gro.alloc | with_reducible apply Gro.drew | with_reducible apply Gro.drewN)))).mono ?_
  rintro e w1 ⟨rfl, os6, d6, rfl⟩
  go_wp2_with (fail)
  go_region_held3 (fun w' => w'.cell? ⟨w.heap.size + 1 + os0.size + os2.size + os3.size + os4.size, 0, none⟩ = some (.slice A4_0 t.Nodes.length c4_0) ∧ w'.cell? ⟨w.heap.size, 0, none⟩ = some (.slice A0 t.Nodes.length c0)) (simp [go_sem]) (first
      | (go_at_call 40; refine (toStacks_l (x := t) (Ty.up _ p_t0 (by repeat (first | with_reducible exact Gro.refl _ | with_reducible exact Gro.refl_drew _ _ _ | with_reducible exact Gro.refl_drewN _ _ _ _ | assumption | with_reducible apply Gro.more | with_reducible apply Gro.alloc | with_reducible apply Gro.drew | with_reducible apply Gro.drewN))) (by omega)).mono ?_; rintro e w1 ⟨A7_0, c7_0, rfl, hF7, os7, d7, rfl⟩)
      | (go_at_call 41; refine (eqStacks_l (x := t) (y := t) (Ty.up _ (rdStacks hF4.read) (by repeat (first | with_reducible exact Gro.refl _ | with_reducible exact Gro.refl_drew _ _ _ | with_reducible exact Gro.refl_drewN _ _ _ _ | assumption | with_reducible apply Gro.more | with_reducible apply Gro.alloc | with_reducible apply Gro.drew | with_reducible apply Gro.drewN))) (Ty.up _ (rdStacks hF7.read) (by repeat (first | with_reducible exact Gro.refl _ | with_reducible exact Gro.refl_drew _ _ _ | with_reducible exact Gro.refl_drewN _ _ _ _ | assumption | with_reducible apply Gro.more | with_reducible apply Gro.alloc | with_reducible apply Gro.drew | with_reducible apply Gro.drewN)))).mono ?_; rintro e w1 ⟨rfl, os8, d8, rfl⟩))
  go_wp2_with (fail)
  obtain ⟨S_w0, hO_w0, hN_w0, hL_w0⟩ := hR3
  have hU_w0 := Ty.ltO _ hO_w0
  obtain ⟨S_x_t, hO_x_t, hN_x_t, hL_x_t⟩ := hF4
  have hU_x_t := Ty.ltO _ hO_x_t
  obtain ⟨S_g0, hO_g0, hN_g0, hL_g0⟩ := hR5
  have hU_g0 := Ty.ltO _ hO_g0
  go_wp2_with (fail)
  refine (markStacks_l (x := t) (Ty.groO _ hO_x_t (by repeat (first | with_reducible exact Gro.refl _ | with_reducible exact Gro.refl_drew _ _ _ | with_reducible exact Gro.refl_drewN _ _ _ _ | assumption | with_reducible apply Gro.more | with_reducible apply Gro.alloc | with_reducible apply Gro.drew | with_reducible apply Gro.drewN))) hN_x_t (by omega) (by omega)).mono ?_
  rintro e w9 ⟨rfl, hM_x_t, hS9⟩
  have hO_w0_9 := keepOnly _ hO_w0 hS9 (by repeat (first | with_reducible exact Gro.refl _ | with_reducible exact Gro.refl_drew _ _ _ | with_reducible exact Gro.refl_drewN _ _ _ _ | assumption | with_reducible apply Gro.more | with_reducible apply Gro.alloc | with_reducible apply Gro.drew | with_reducible apply Gro.drewN)) (fun b hb hm => by have q1 := hU_w0 b hb; have q2 := hL_x_t b hm; simp at q1 q2; omega)
  have hO_g0_9 := keepOnly _ hO_g0 hS9 (by repeat (first | with_reducible exact Gro.refl _ | with_reducible exact Gro.refl_drew _ _ _ | with_reducible exact Gro.refl_drewN _ _ _ _ | assumption | with_reducible apply Gro.more | with_reducible apply Gro.alloc | with_reducible apply Gro.drew | with_reducible apply Gro.drewN)) (fun b hb hm => by have q1 := hL_g0 b hb; have q2 := hU_x_t b hm; simp at q1 q2; omega)
  have hc9_t_0 : w9.cell? ⟨w.heap.size, 0, none⟩ = some (.slice A0 t.Nodes.length c0) := (hS9.cell (by simp <;> omega) (fun hm => by have q1 := hL_x_t _ hm; simp at q1 <;> omega) 0).trans (by simp [go_sem])
  have hcb_t : w.heap.size < w9.heap.size := Nat.lt_of_lt_of_le (by simp <;> omega) hS9.size
  obtain ⟨os9, d9, rfl⟩ := hS9.gro (W0 := w) (by repeat (first | with_reducible exact Gro.refl _ | with_reducible exact Gro.refl_drew _ _ _ | with_reducible exact Gro.refl_drewN _ _ _ _ | assumption | with_reducible apply Gro.more | with_reducible apply Gro.alloc | with_reducible apply Gro.drew | with_reducible apply Gro.drewN)) (fun b hb => by have q1 := hL_x_t b hb; simp at q1; omega)
  clear hS9
  simp at hcb_t
  go_wp2_with (fail)
  refine (eqFrameS_l (xs := p) (ys := p) (Ty.up _ (Ty.read _ hO_g0_9) (by repeat (first | with_reducible exact Gro.refl _ | with_reducible exact Gro.refl_drew _ _ _ | with_reducible exact Gro.refl_drewN _ _ _ _ | assumption | with_reducible apply Gro.more | with_reducible apply Gro.alloc | with_reducible apply Gro.drew | with_reducible apply Gro.drewN))) (Ty.up _ (Ty.read _ hO_w0_9) (by repeat (first | with_reducible exact Gro.refl _ | with_reducible exact Gro.refl_drew _ _ _ | with_reducible exact Gro.refl_drewN _ _ _ _ | assumption | with_reducible apply Gro.more | with_reducible apply Gro.alloc | with_reducible apply Gro.drew | with_reducible apply Gro.drewN)))).mono ?_
  rintro e w1 ⟨rfl, os10, d10, rfl⟩
  go_wp2_with (fail)
  refine (markFrameS_l (xs := p) (Ty.groO _ hO_g0_9 (by repeat (first | with_reducible exact Gro.refl _ | with_reducible exact Gro.refl_drew _ _ _ | with_reducible exact Gro.refl_drewN _ _ _ _ | assumption | with_reducible apply Gro.more | with_reducible apply Gro.alloc | with_reducible apply Gro.drew | with_reducible apply Gro.drewN))) hN_g0 (by omega) (by omega)).mono ?_
  rintro e w11 ⟨rfl, hM_g0, hS11⟩
  have hO_w0_9_11 := keepOnly _ hO_w0_9 hS11 (by repeat (first | with_reducible exact Gro.refl _ | with_reducible exact Gro.refl_drew _ _ _ | with_reducible exact Gro.refl_drewN _ _ _ _ | assumption | with_reducible apply Gro.more | with_reducible apply Gro.alloc | with_reducible apply Gro.drew | with_reducible apply Gro.drewN)) (fun b hb hm => by have q1 := hU_w0 b hb; have q2 := hL_g0 b hm; simp at q1 q2; omega)
  have hc11_t_0 : w11.cell? ⟨w.heap.size, 0, none⟩ = some (.slice A0 t.Nodes.length c0) := (hS11.cell (by simp <;> omega) (fun hm => by have q1 := hL_g0 _ hm; simp at q1 <;> omega) 0).trans (by first | exact hc9_t_0 | exact gro_keeps hc9_t_0 _ _ | simp [go_sem, hc9_t_0, hcb_t])
  replace hcb_t : w.heap.size < w11.heap.size := Nat.lt_of_lt_of_le (by simp <;> omega) hS11.size
  clear hc9_t_0
  obtain ⟨os11, d11, rfl⟩ := hS11.gro (W0 := w) (by repeat (first | with_reducible exact Gro.refl _ | with_reducible exact Gro.refl_drew _ _ _ | with_reducible exact Gro.refl_drewN _ _ _ _ | assumption | with_reducible apply Gro.more | with_reducible apply Gro.alloc | with_reducible apply Gro.drew | with_reducible apply Gro.drewN)) (fun b hb => by have q1 := hL_g0 b hb; simp at q1; omega)
  clear hS11
  simp at hcb_t
  have mkread_g0 := Ty.read _ hM_g0
  go_wp2_with (fail)
  refine (heldFrameS_l (xs := p) (Ty.up _ (mkread_g0) (by repeat (first | with_reducible exact Gro.refl _ | with_reducible exact Gro.refl_drew _ _ _ | with_reducible exact Gro.refl_drewN _ _ _ _ | assumption | with_reducible apply Gro.more | with_reducible apply Gro.alloc | with_reducible apply Gro.drew | with_reducible apply Gro.drewN))) (by omega) (by omega)).mono ?_
  rintro e w1 ⟨rfl, os12, d12, rfl⟩
  go_wp2_with (fail)
  refine (toStacks_l (x := t) (Ty.up _ p_t0 (by repeat (first | with_reducible exact Gro.refl _ | with_reducible exact Gro.refl_drew _ _ _ | with_reducible exact Gro.refl_drewN _ _ _ _ | assumption | with_reducible apply Gro.more | with_reducible apply Gro.alloc | with_reducible apply Gro.drew | with_reducible apply Gro.drewN))) (by omega)).mono ?_
  rintro e w1 ⟨A13_0, c13_0, rfl, hF13, os13, d13, rfl⟩
  go_wp2_with (fail)
  refine (stackAt_i (t := t) (k := k) (Ty.up _ (rdStacks hF13.read) (by repeat (first | with_reducible exact Gro.refl _ | with_reducible exact Gro.refl_drew _ _ _ | with_reducible exact Gro.refl_drewN _ _ _ _ | assumption | with_reducible apply Gro.more | with_reducible apply Gro.alloc | with_reducible apply Gro.drew | with_reducible apply Gro.drewN))) (by omega)).mono ?_
  rw [hp.out]
  rintro e w1 ⟨B14_0, e14_0, rfl, hR14, os14, d14, rfl⟩
  go_wp2_with (fail)
  refine (eqFrameS_l (xs := p) (ys := p) (Ty.up _ hR14.read (by repeat (first | with_reducible exact Gro.refl _ | with_reducible exact Gro.refl_drew _ _ _ | with_reducible exact Gro.refl_drewN _ _ _ _ | assumption | with_reducible apply Gro.more | with_reducible apply Gro.alloc | with_reducible apply Gro.drew | with_reducible apply Gro.drewN))) (Ty.up _ (Ty.read _ hO_w0_9_11) (by repeat (first | with_reducible exact Gro.refl _ | with_reducible exact Gro.refl_drew _ _ _ | with_reducible exact Gro.refl_drewN _ _ _ _ | assumption | with_reducible apply Gro.more | with_reducible apply Gro.alloc | with_reducible apply Gro.drew | with_reducible apply Gro.drewN)))).mono ?_
  rintro e w1 ⟨rfl, os15, d15, rfl⟩
  go_wp2_with (fail)
  refine (heldFrameS_l (xs := p) (Ty.up _ (mkread_g0) (by repeat (first | with_reducible exact Gro.refl _ | with_reducible exact Gro.refl_drew _ _ _ | with_reducible exact Gro.refl_drewN _ _ _ _ | assumption | with_reducible apply Gro.more | with_reducible apply Gro.alloc | with_reducible apply Gro.drew | with_reducible apply Gro.drewN))) (by omega) (by omega)).mono ?_
  rintro e w1 ⟨rfl, os16, d16, rfl⟩
  go_wp2
  go_ret
  exact ⟨rfl, (by repeat (first | with_reducible exact Gro.refl _ | with_reducible exact Gro.refl_drew _ _ _ | with_reducible exact Gro.refl_drewN _ _ _ _ | assumption | with_reducible apply Gro.more | with_reducible apply Gro.alloc | with_reducible apply Gro.drew | with_reducible apply Gro.drewN))⟩

set_option maxRecDepth 100000 in
theorem lifted (os : Os) (started : os.Started) (H : Type) (enc : TypeId × Value → H) :
    ReturnsInHanded {} Try.checked os 10 .any (Rows.fnExactStackAtSpec.pre6 enc Try.prog Try.f10 Rows.fnExactStackAtRow.domain false) (Rows.fnExactStackAtSpec.post enc Try.prog Try.f10 false true false false) := by
  refine returnsInHanded_of_change (C := Try.checked) own started (by kernel_rfl) Try.func10
    (ChangeSpec.witness6 (enc := enc) (C := Try.checked) false ⟨#[], #[.agg #[.slice none 0 0], .int .i64 0], []⟩ 8 (by kernel_rfl) (by kernel_rfl) (by kernel_rfl) (by kernel_rfl)) ?_
  intro W base args ds gs before hval0 hW hcnd _
  have hval : ∀ (j : Nat) t v, Try.f10.params[j]? = some t → args[j]? = some v → Value.okWide Try.prog W .any base t v := hval0
  have hW' := hW
  obtain ⟨p, q, hA0, hV, rfl, hfz, hnd⟩ := hW
  have hA : DataW.TrodAll enc Try.prog W 0 (fun _ => true) true Try.f10.params.toList args.toList ds p := hA0
  rw [Try.params10] at hA hval
  obtain ⟨v0, vs0, d0, ds0, p0, q0, hargs, rfl, rfl, h0, r0⟩ := trodAll_cons hA
  obtain ⟨v1, vs1, d1, ds1, p1, q1, rfl, rfl, rfl, h1, r1⟩ := trodAll_cons r0
  obtain ⟨rfl, rfl, rfl⟩ := trodAll_nil r1
  obtain rfl : args = #[v0, v1] := by cases args; simp_all
  obtain ⟨rfl, rfl⟩ := trodVars_none hV
  have k0 := h0
  have lt0 : ∀ x ∈ p0, x.block < W.heap.size := by obtain ⟨m, hm⟩ := k0; exact DataW.trod_lt m _ _ _ hm
  obtain ⟨cs0, rfl⟩ := arg_agg Try.underlying62 (hval 0 62 v0 rfl rfl)
  obtain ⟨a0, w0⟩ := arg_open tStacks_opens h0
  have k1 := h1
  have lt1 : ∀ x ∈ p1, x.block < W.heap.size := by obtain ⟨m, hm⟩ := k1; exact DataW.trod_lt m _ _ _ hm
  obtain ⟨a1, rfl, rfl, rfl, w1⟩ := open_int Try.underlying3 (hval 1 3 v1 rfl rfl) h1
  clear hA0 hval0
  refine (walk W cs0 a0 w0 a1 (wf_bounds w1).1 (wf_bounds w1).2).mono fun e W' ⟨he, hgro⟩ => ?_
  subst he
  have bel := hgro.below
  exact ⟨_, rfl, _, _, _, [], _, [], hW', trodAll_mk1 (shut_bool Try.underlying4 _), (trodAll_cons_mk (Below.trod laidOut (by kernel_rfl) (of_decide_eq_true (by kernel_rfl)) k0 bel lt0) (trodAll_cons_mk (Below.trod laidOut (by kernel_rfl) (of_decide_eq_true (by kernel_rfl)) k1 bel lt1) trodAll_mk0)), rfl, bel.frame _, fun h => by cases h⟩
theorem over : Rows.fnExactStackAtRow.holds Try.pinned (OpenSpec.ofChange Rows.fnExactStackAtSpec) :=
  OpenClaim.holds_of_wide 10 Try.f10 rfl rfl rfl rfl rfl rfl rfl ⟨rfl, rfl, rfl, rfl, rfl⟩ rfl rfl rfl rfl rfl (by kernel_rfl) Try.func10 (by kernel_rfl)
    (of_decide_eq_true (by kernel_rfl)) (by unfold Func.isWrapper; first | (rw [if_pos (by decide +kernel)]; kernel_rfl) | (rw [if_neg (by decide +kernel)]; exact ⟨rfl, rfl⟩))
    (fun os started H enc _ => lifted os started H enc)
/-- THE STATEMENT -/
theorem proved : Rows.FnExactStackAtSaid := over
#print axioms proved
end Go.Proofs.Ytlapempepfjkpaa.fnExactStackAt
