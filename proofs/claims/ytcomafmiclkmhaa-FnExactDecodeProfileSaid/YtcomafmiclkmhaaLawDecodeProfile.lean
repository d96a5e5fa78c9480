/-
  The law FnExactDecodeProfile answers true for every input: the program and the reference compute the same; the arguments stay; the result is of its own memory. No condition.
-/
import Derived.Test.YtcomafmiclkmhaaRows
import Derived.Test.YtcomafmiclkmhaaOpen
import Derived.Test.YtcomafmiclkmhaaDecP3
import Derived.ShutString
import Derived.Deep.RegionHeld3
set_option linter.unusedVariables false
set_option linter.unusedSimpArgs false
namespace Go.Proofs.Ytcomafmiclkmhaa.fnExactDecodeProfile
open Go.ChangeShapes Go.WideShapes Go.ChangeAt Go.RowKit
open Go.ChangeMaps (open_string shut_string)
theorem own : ownKnob Try.prog.godebug = none := by kernel_rfl
theorem laidOut : laidOutB Try.prog = true := by kernel_rfl
theorem rdProfile {w : World} {B : Nat} {x : DProfile} {A0 : Option Addr} {c0 : Nat} {A1 : Option Addr} {c1 : Nat} (h : tProfile.R w B [.slice A0 x.Stacks.Nodes.length c0, .slice A1 x.Counts.length c1] x) : (tNode.sl 41).R w B [.slice A0 x.Stacks.Nodes.length c0] x.Stacks.Nodes ∧ (intT.sl 3).R w B [.slice A1 x.Counts.length c1] x.Counts := by
  obtain ⟨A0', c0', A1', c1', hc, f0, f1⟩ := tProfile_R h
  simp only [List.cons.injEq, Value.slice.injEq, true_and, and_true] at hc
  obtain ⟨⟨rfl, rfl⟩, ⟨rfl, rfl⟩⟩ := hc
  exact ⟨f0, f1⟩
set_option maxRecDepth 100000 in
set_option maxHeartbeats 4000000 in
theorem walk (w : World) (s : ByteArray) (hb_s : s.size ≤ 9223372036854775807) :
    Calls Try.prog 3 #[.string s] w fun e w' => e = .returned (.bool true) ∧ Gro w w' := by
  obtain ⟨n0, hn0⟩ : ∃ n, s.size = n := ⟨_, rfl⟩
  by_cases hz0 : (n0 : Int) ≤ 1048576
  case neg =>
    have e0 : (s.size : Int) = (n0 : Int) := by rw [hn0]
    clear hn0
    go_enter Try.func3, Try.ntmps3
    go_wp2
    go_ret
    exact ⟨rfl, (by repeat (first | with_reducible exact Gro.refl _ | with_reducible exact Gro.refl_drew _ _ _ | with_reducible exact Gro.refl_drewN _ _ _ _ | assumption | with_reducible apply Gro.more | with_reducible apply Gro.alloc | with_reducible apply Gro.drew | with_reducible apply Gro.drewN))⟩
  have e0 : (s.size : Int) = (n0 : Int) := by rw [hn0]
  have HN0 := Lib.hid hn0
  clear hn0
  obtain ⟨p, hp, hpb0, hpb1⟩ : ∃ p, Hid (decP s = p) ∧ p.1.Stacks.Nodes.length ≤ 1048576 ∧ cntProfile p.1 ≤ 8388608 := ⟨_, Lib.hid rfl, by have := decP_len s; omega, by have := decP_len s; unfold cntProfile cntStacks cntNodeS; omega⟩
  go_enter Try.func3, Try.ntmps3
  go_wp2_with (fail)
  refine (decP_s s _ (by omega)).mono ?_
  rw [hp.out]
  rintro e w1 ⟨B2_0, e2_0, B2_1, e2_1, rfl, hR2, os2, d2, rfl⟩
  go_wp2_with (fail)
  refine (decP_i s _ (by omega)).mono ?_
  rw [hp.out]
  rintro e w1 ⟨B3_0, e3_0, B3_1, e3_1, rfl, hR3, os3, d3, rfl⟩
  go_wp2_with (fail)
  refine (eqProfile_l (x := p.1) (y := p.1) (Ty.up _ (rdProfile hR3.read).1 (by repeat (first | with_reducible exact Gro.refl _ | with_reducible exact Gro.refl_drew _ _ _ | with_reducible exact Gro.refl_drewN _ _ _ _ | assumption | with_reducible apply Gro.more | with_reducible apply Gro.alloc | with_reducible apply Gro.drew | with_reducible apply Gro.drewN))) (Ty.up _ (rdProfile hR3.read).2 (by repeat (first | with_reducible exact Gro.refl _ | with_reducible exact Gro.refl_drew _ _ _ | with_reducible exact Gro.refl_drewN _ _ _ _ | assumption | with_reducible apply Gro.more | with_reducible apply Gro.alloc | with_reducible apply Gro.drew | with_reducible apply Gro.drewN))) (Ty.up _ (rdProfile hR2.read).1 (by repeat (first | with_reducible exact Gro.refl _ | with_reducible exact Gro.refl_drew _ _ _ | with_reducible exact Gro.refl_drewN _ _ _ _ | assumption | with_reducible apply Gro.more | with_reducible apply Gro.alloc | with_reducible apply Gro.drew | with_reducible apply Gro.drewN))) (Ty.up _ (rdProfile hR2.read).2 (by repeat (first | with_reducible exact Gro.refl _ | with_reducible exact Gro.refl_drew _ _ _ | with_reducible exact Gro.refl_drewN _ _ _ _ | assumption | with_reducible apply Gro.more | with_reducible apply Gro.alloc | with_reducible apply Gro.drew | with_reducible apply Gro.drewN)))).mono ?_
  rintro e w1 ⟨rfl, os4, d4, rfl⟩
  go_wp2_with (fail)
  obtain ⟨S_w0, hO_w0, hN_w0, hL_w0⟩ := hR2
  have hU_w0 := Ty.ltO _ hO_w0
  obtain ⟨S_g0, hO_g0, hN_g0, hL_g0⟩ := hR3
  have hU_g0 := Ty.ltO _ hO_g0
  go_wp2_with (fail)
  refine (markProfile_l (x := p.1) (Ty.groO _ hO_g0 (by repeat (first | with_reducible exact Gro.refl _ | with_reducible exact Gro.refl_drew _ _ _ | with_reducible exact Gro.refl_drewN _ _ _ _ | assumption | with_reducible apply Gro.more | with_reducible apply Gro.alloc | with_reducible apply Gro.drew | with_reducible apply Gro.drewN))) hN_g0 (by omega) (by omega)).mono ?_
  rintro e w5 ⟨rfl, hM_g0, hS5⟩
  have hO_w0_5 := keepOnly _ hO_w0 hS5 (by repeat (first | with_reducible exact Gro.refl _ | with_reducible exact Gro.refl_drew _ _ _ | with_reducible exact Gro.refl_drewN _ _ _ _ | assumption | with_reducible apply Gro.more | with_reducible apply Gro.alloc | with_reducible apply Gro.drew | with_reducible apply Gro.drewN)) (fun b hb hm => by have q1 := hU_w0 b hb; have q2 := hL_g0 b hm; simp at q1 q2; omega)
  have hc5_w0_0 : w5.cell? ⟨w.heap.size + os2.size, 0, none⟩ = some (.slice B2_0 p.1.Stacks.Nodes.length e2_0) := (hS5.cell (by simp <;> omega) (fun hm => by have q1 := hL_g0 _ hm; simp at q1 <;> omega) 0).trans (by simp [go_sem])
  have hc5_w0_1 : w5.cell? ⟨w.heap.size + os2.size, 1, none⟩ = some (.slice B2_1 p.1.Counts.length e2_1) := (hS5.cell (by simp <;> omega) (fun hm => by have q1 := hL_g0 _ hm; simp at q1 <;> omega) 1).trans (by simp [go_sem])
  have hcb_w0 : w.heap.size + os2.size < w5.heap.size := Nat.lt_of_lt_of_le (by simp <;> omega) hS5.size
  have hc5_g0_0 : w5.cell? ⟨w.heap.size + os2.size + 1 + os3.size, 0, none⟩ = some (.slice B3_0 p.1.Stacks.Nodes.length e3_0) := (hS5.cell (by simp <;> omega) (fun hm => by have q1 := hU_g0 _ hm; simp at q1 <;> omega) 0).trans (by simp [go_sem])
  have hc5_g0_1 : w5.cell? ⟨w.heap.size + os2.size + 1 + os3.size, 1, none⟩ = some (.slice B3_1 p.1.Counts.length e3_1) := (hS5.cell (by simp <;> omega) (fun hm => by have q1 := hU_g0 _ hm; simp at q1 <;> omega) 1).trans (by simp [go_sem])
  have hcb_g0 : w.heap.size + os2.size + 1 + os3.size < w5.heap.size := Nat.lt_of_lt_of_le (by simp <;> omega) hS5.size
  obtain ⟨os5, d5, rfl⟩ := hS5.gro (W0 := w) (by repeat (first | with_reducible exact Gro.refl _ | with_reducible exact Gro.refl_drew _ _ _ | with_reducible exact Gro.refl_drewN _ _ _ _ | assumption | with_reducible apply Gro.more | with_reducible apply Gro.alloc | with_reducible apply Gro.drew | with_reducible apply Gro.drewN)) (fun b hb => by have q1 := hL_g0 b hb; simp at q1; omega)
  clear hS5
  simp at hcb_w0
  simp at hcb_g0
  go_wp2_with (fail)
  refine (heldProfile_l (x := p.1) (Ty.up _ (mkProfile_read hM_g0).1 (by repeat (first | with_reducible exact Gro.refl _ | with_reducible exact Gro.refl_drew _ _ _ | with_reducible exact Gro.refl_drewN _ _ _ _ | assumption | with_reducible apply Gro.more | with_reducible apply Gro.alloc | with_reducible apply Gro.drew | with_reducible apply Gro.drewN))) (Ty.up _ (mkProfile_read hM_g0).2 (by repeat (first | with_reducible exact Gro.refl _ | with_reducible exact Gro.refl_drew _ _ _ | with_reducible exact Gro.refl_drewN _ _ _ _ | assumption | with_reducible apply Gro.more | with_reducible apply Gro.alloc | with_reducible apply Gro.drew | with_reducible apply Gro.drewN))) (by omega) (by omega)).mono ?_
  rintro e w1 ⟨rfl, os6, d6, rfl⟩
  go_wp2_with (fail)
  refine (decP_i s _ (by omega)).mono ?_
  rw [hp.out]
  rintro e w1 ⟨B7_0, e7_0, B7_1, e7_1, rfl, hR7, os7, d7, rfl⟩
  go_wp2_with (fail)
  refine (eqProfile_l (x := p.1) (y := p.1) (Ty.up _ (rdProfile hR7.read).1 (by repeat (first | with_reducible exact Gro.refl _ | with_reducible exact Gro.refl_drew _ _ _ | with_reducible exact Gro.refl_drewN _ _ _ _ | assumption | with_reducible apply Gro.more | with_reducible apply Gro.alloc | with_reducible apply Gro.drew | with_reducible apply Gro.drewN))) (Ty.up _ (rdProfile hR7.read).2 (by repeat (first | with_reducible exact Gro.refl _ | with_reducible exact Gro.refl_drew _ _ _ | with_reducible exact Gro.refl_drewN _ _ _ _ | assumption | with_reducible apply Gro.more | with_reducible apply Gro.alloc | with_reducible apply Gro.drew | with_reducible apply Gro.drewN))) (Ty.up _ (rdProfile (Ty.read _ hO_w0_5)).1 (by repeat (first | with_reducible exact Gro.refl _ | with_reducible exact Gro.refl_drew _ _ _ | with_reducible exact Gro.refl_drewN _ _ _ _ | assumption | with_reducible apply Gro.more | with_reducible apply Gro.alloc | with_reducible apply Gro.drew | with_reducible apply Gro.drewN))) (Ty.up _ (rdProfile (Ty.read _ hO_w0_5)).2 (by repeat (first | with_reducible exact Gro.refl _ | with_reducible exact Gro.refl_drew _ _ _ | with_reducible exact Gro.refl_drewN _ _ _ _ | assumption | with_reducible apply Gro.more | with_reducible apply Gro.alloc | with_reducible apply Gro.drew | with_reducible apply Gro.drewN)))).mono ?_
  rintro e w1 ⟨rfl, os8, d8, rfl⟩
  go_wp2_with (fail)
  refine (heldProfile_l (x := p.1) (Ty.up _ (mkProfile_read hM_g0).1 (by repeat (first | with_reducible exact Gro.refl _ | with_reducible exact Gro.refl_drew _ _ _ | with_reducible exact Gro.refl_drewN _ _ _ _ | assumption | with_reducible apply Gro.more | with_reducible apply Gro.alloc | with_reducible apply Gro.drew | with_reducible apply Gro.drewN))) (Ty.up _ (mkProfile_read hM_g0).2 (by repeat (first | with_reducible exact Gro.refl _ | with_reducible exact Gro.refl_drew _ _ _ | with_reducible exact Gro.refl_drewN _ _ _ _ | assumption | with_reducible apply Gro.more | with_reducible apply Gro.alloc | with_reducible apply Gro.drew | with_reducible apply Gro.drewN))) (by omega) (by omega)).mono ?_
  rintro e w1 ⟨rfl, os9, d9, rfl⟩
  go_wp2
  go_ret
  exact ⟨rfl, (by repeat (first | with_reducible exact Gro.refl _ | with_reducible exact Gro.refl_drew _ _ _ | with_reducible exact Gro.refl_drewN _ _ _ _ | assumption | with_reducible apply Gro.more | with_reducible apply Gro.alloc | with_reducible apply Gro.drew | with_reducible apply Gro.drewN))⟩

set_option maxRecDepth 100000 in
theorem lifted (os : Os) (started : os.Started) (H : Type) (enc : TypeId × Value → H) :
    ReturnsInHanded {} Try.checked os 3 .any (Rows.fnExactDecodeProfileSpec.pre6 enc Try.prog Try.f3 Rows.fnExactDecodeProfileRow.domain false) (Rows.fnExactDecodeProfileSpec.post enc Try.prog Try.f3 false true false false) := by
  refine returnsInHanded_of_change (C := Try.checked) own started (by kernel_rfl) Try.func3
    (ChangeSpec.witness6 (enc := enc) (C := Try.checked) false ⟨#[], #[.string ⟨#[]⟩], []⟩ 8 (by kernel_rfl) (by kernel_rfl) (by kernel_rfl) (by kernel_rfl)) ?_
  intro W base args ds gs before hval0 hW hcnd _
  have hval : ∀ (j : Nat) t v, Try.f3.params[j]? = some t → args[j]? = some v → Value.okWide Try.prog W .any base t v := hval0
  have hW' := hW
  obtain ⟨p, q, hA0, hV, rfl, hfz, hnd⟩ := hW
  have hA : DataW.TrodAll enc Try.prog W 0 (fun _ => true) true Try.f3.params.toList args.toList ds p := hA0
  rw [Try.params3] at hA hval
  obtain ⟨v0, vs0, d0, ds0, p0, q0, hargs, rfl, rfl, h0, r0⟩ := trodAll_cons hA
  obtain ⟨rfl, rfl, rfl⟩ := trodAll_nil r0
  obtain rfl : args = #[v0] := by cases args; simp_all
  obtain ⟨rfl, rfl⟩ := trodVars_none hV
  have k0 := h0
  have lt0 : ∀ x ∈ p0, x.block < W.heap.size := by obtain ⟨m, hm⟩ := k0; exact DataW.trod_lt m _ _ _ hm
  obtain ⟨a0, rfl, rfl, rfl, w0⟩ := open_string Try.underlying9 (hval 0 9 v0 rfl rfl) h0
  clear hA0 hval0
  refine (walk W a0 (by simpa [maxLen] using w0)).mono fun e W' ⟨he, hgro⟩ => ?_
  subst he
  have bel := hgro.below
  exact ⟨_, rfl, _, _, _, [], _, [], hW', trodAll_mk1 (shut_bool Try.underlying4 _), (trodAll_cons_mk (Below.trod laidOut (by kernel_rfl) (of_decide_eq_true (by kernel_rfl)) k0 bel lt0) trodAll_mk0), rfl, bel.frame _, fun h => by cases h⟩
theorem over : Rows.fnExactDecodeProfileRow.holds Try.pinned (OpenSpec.ofChange Rows.fnExactDecodeProfileSpec) :=
  OpenClaim.holds_of_wide 3 Try.f3 rfl rfl rfl rfl rfl rfl rfl ⟨rfl, rfl, rfl, rfl, rfl⟩ rfl rfl rfl rfl rfl (by kernel_rfl) Try.func3 (by kernel_rfl)
    (of_decide_eq_true (by kernel_rfl)) (by unfold Func.isWrapper; first | (rw [if_pos (by decide +kernel)]; kernel_rfl) | (rw [if_neg (by decide +kernel)]; exact ⟨rfl, rfl⟩))
    (fun os started H enc _ => lifted os started H enc)
/-- THE STATEMENT -/
theorem proved : Rows.FnExactDecodeProfileSaid := over
#print axioms proved
end Go.Proofs.Ytcomafmiclkmhaa.fnExactDecodeProfile
