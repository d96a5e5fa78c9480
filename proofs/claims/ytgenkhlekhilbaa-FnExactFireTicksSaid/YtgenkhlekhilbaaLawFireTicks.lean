/-
  The law FnExactFireTicks answers true for every input: the program's FireTicks and the reference's both give fire; the program's list is of its own memory and holds its marks. No condition.
-/
import Derived.Test.YtgenkhlekhilbaaRows
import Derived.Test.YtgenkhlekhilbaaOpen
import Derived.Test.YtgenkhlekhilbaaFire
import Derived.ShutString
namespace Go.Proofs.Ytgenkhlekhilbaa.fnExactFireTicks
open Go.ChangeShapes Go.WideShapes Go.ChangeAt Go.RowKit
open Go.ChangeMaps (open_string shut_string)
theorem own : ownKnob Try.prog.godebug = none := by kernel_rfl
theorem laidOut : laidOutB Try.prog = true := by kernel_rfl
theorem walk (w : World) (cs : Array Value) (t : DTimer) (h : tTimer.R w w.heap.size cs.toList t) (n : Int) (_ : -9223372036854775808 ≤ n) (_ : n ≤ 9223372036854775807) :
    Calls Try.prog 9 #[.agg cs, .int .i64 n] w fun e w' => e = .returned (.bool true) ∧ Gro w w' := by
  obtain ⟨hcs, _⟩ := tTimer_R h
  obtain rfl := Array.toList_inj.1 (show cs.toList = (#[.int .i64 t.Period, .int .i64 t.Spread, .int .i64 t.Left, .int .i64 t.State] : Array Value).toList from hcs)
  clear h hcs
  have hlen := fire_len t n
  go_enter Try.func9, Try.ntmps9
  go_wp2_with (fail)
  refine (toTimer_l _ _ _ _ _).mono ?_
  rintro e w1 ⟨rfl, os0, d0, rfl⟩
  go_wp2_with (fail)
  refine (fire_s t n _).mono ?_
  rintro e w1 ⟨A1, c1, rfl, hF1, os1, d1, rfl⟩
  go_wp2_with (fail)
  refine (toTimer_l _ _ _ _ _).mono ?_
  rintro e w1 ⟨rfl, os2, d2, rfl⟩
  go_wp2_with (fail)
  refine (fire_i t n _).mono ?_
  rintro e w1 ⟨A2, c2, rfl, hF2, os3, d3, rfl⟩
  go_wp2_with (fail)
  refine (eqIntS_l (Ty.up _ hF2.read (by repeat (first | with_reducible exact Gro.refl _ | with_reducible exact Gro.refl_drew _ _ _ | with_reducible exact Gro.refl_drewN _ _ _ _ | assumption | with_reducible apply Gro.more | with_reducible apply Gro.alloc | with_reducible apply Gro.drew | with_reducible apply Gro.drewN))) (Ty.up _ hF1.read (by repeat (first | with_reducible exact Gro.refl _ | with_reducible exact Gro.refl_drew _ _ _ | with_reducible exact Gro.refl_drewN _ _ _ _ | assumption | with_reducible apply Gro.more | with_reducible apply Gro.alloc | with_reducible apply Gro.drew | with_reducible apply Gro.drewN)))).mono ?_
  rintro e w1 ⟨rfl, os4, d4, rfl⟩
  go_wp2_with (fail)
  obtain ⟨S1, hO1, hN1, hL1⟩ := hF1
  obtain ⟨S2, hO2, hN2, hL2⟩ := hF2
  refine (markIntS_l (Ty.groO _ hO2 (by repeat (first | with_reducible exact Gro.refl _ | with_reducible exact Gro.refl_drew _ _ _ | with_reducible exact Gro.refl_drewN _ _ _ _ | assumption | with_reducible apply Gro.more | with_reducible apply Gro.alloc | with_reducible apply Gro.drew | with_reducible apply Gro.drewN))) hN2 (by omega) (by omega)).mono ?_
  rintro e w5 ⟨rfl, hO3, hS3⟩
  obtain ⟨os5, d5, rfl⟩ := hS3.gro (by repeat (first | with_reducible exact Gro.refl _ | with_reducible exact Gro.refl_drew _ _ _ | with_reducible exact Gro.refl_drewN _ _ _ _ | assumption | with_reducible apply Gro.more | with_reducible apply Gro.alloc | with_reducible apply Gro.drew | with_reducible apply Gro.drewN)) hL2
  go_wp2_with (fail)
  refine (heldIntS_l (xs := fire t n) (Nat.le_refl _) (Ty.read _ hO3) (by omega) (by omega)).mono ?_
  rintro e w1 ⟨rfl, os6, d6, rfl⟩
  go_wp2_with (fail)
  refine (toTimer_l _ _ _ _ _).mono ?_
  rintro e w1 ⟨rfl, os7, d7, rfl⟩
  go_wp2_with (fail)
  refine (fire_i t n _).mono ?_
  rintro e w1 ⟨A8, c8, rfl, hF8, os8, d8, rfl⟩
  go_wp2_with (fail)
  refine (eqIntS_l (Ty.up _ hF8.read (by repeat (first | with_reducible exact Gro.refl _ | with_reducible exact Gro.refl_drew _ _ _ | with_reducible exact Gro.refl_drewN _ _ _ _ | assumption | with_reducible apply Gro.more | with_reducible apply Gro.alloc | with_reducible apply Gro.drew | with_reducible apply Gro.drewN))) (Ty.up _ (Ty.read _ hO1) (by repeat (first | with_reducible exact Gro.refl _ | with_reducible exact Gro.refl_drew _ _ _ | with_reducible exact Gro.refl_drewN _ _ _ _ | assumption | with_reducible apply Gro.more | with_reducible apply Gro.alloc | with_reducible apply Gro.drew | with_reducible apply Gro.drewN)))).mono ?_
  rintro e w1 ⟨rfl, os9, d9, rfl⟩
  go_wp2_with (fail)
  refine (heldIntS_l (xs := fire t n) (Nat.le_refl _) (Ty.up _ (Ty.read _ hO3) (by repeat (first | with_reducible exact Gro.refl _ | with_reducible exact Gro.refl_drew _ _ _ | with_reducible exact Gro.refl_drewN _ _ _ _ | assumption | with_reducible apply Gro.more | with_reducible apply Gro.alloc | with_reducible apply Gro.drew | with_reducible apply Gro.drewN))) (by omega) (by omega)).mono ?_
  rintro e w1 ⟨rfl, os10, d10, rfl⟩
  go_wp2
  go_ret
  exact ⟨rfl, (by repeat (first | with_reducible exact Gro.refl _ | with_reducible exact Gro.refl_drew _ _ _ | with_reducible exact Gro.refl_drewN _ _ _ _ | assumption | with_reducible apply Gro.more | with_reducible apply Gro.alloc | with_reducible apply Gro.drew | with_reducible apply Gro.drewN))⟩

set_option linter.unusedVariables false
set_option maxRecDepth 100000 in
theorem lifted (os : Os) (started : os.Started) (H : Type) (enc : TypeId × Value → H) :
    ReturnsInHanded {} Try.checked os 9 .any (Rows.fnExactFireTicksSpec.pre6 enc Try.prog Try.f9 Rows.fnExactFireTicksRow.domain false) (Rows.fnExactFireTicksSpec.post enc Try.prog Try.f9 false true false false) := by
  refine returnsInHanded_of_change (C := Try.checked) own started (by kernel_rfl) Try.func9
    (ChangeSpec.witness6 (enc := enc) (C := Try.checked) false ⟨#[], #[.agg #[.int .i64 0, .int .i64 0, .int .i64 0, .int .i64 0], .int .i64 0], []⟩ 8 (by kernel_rfl) (by kernel_rfl) (by kernel_rfl) (by kernel_rfl)) ?_
  intro W base args ds gs before hval0 hW hcnd _
  have hval : ∀ (j : Nat) t v, Try.f9.params[j]? = some t → args[j]? = some v → Value.okWide Try.prog W .any base t v := hval0
  have hW' := hW
  obtain ⟨p, q, hA0, hV, rfl, hfz, hnd⟩ := hW
  have hA : DataW.TrodAll enc Try.prog W 0 (fun _ => true) true Try.f9.params.toList args.toList ds p := hA0
  rw [Try.params9] at hA hval
  obtain ⟨v0, vs0, d0, ds0, p0, q0, hargs, rfl, rfl, h0, r0⟩ := trodAll_cons hA
  obtain ⟨v1, vs1, d1, ds1, p1, q1, rfl, rfl, rfl, h1, r1⟩ := trodAll_cons r0
  obtain ⟨rfl, rfl, rfl⟩ := trodAll_nil r1
  obtain rfl : args = #[v0, v1] := by cases args; simp_all
  obtain ⟨rfl, rfl⟩ := trodVars_none hV
  have k0 := h0
  have lt0 : ∀ x ∈ p0, x.block < W.heap.size := by obtain ⟨m, hm⟩ := k0; exact DataW.trod_lt m _ _ _ hm
  obtain ⟨cs0, rfl⟩ := arg_agg Try.underlying25 (hval 0 25 v0 rfl rfl)
  obtain ⟨a0, w0⟩ := arg_open tTimer_opens h0
  have k1 := h1
  have lt1 : ∀ x ∈ p1, x.block < W.heap.size := by obtain ⟨m, hm⟩ := k1; exact DataW.trod_lt m _ _ _ hm
  obtain ⟨a1, rfl, rfl, rfl, w1⟩ := open_int Try.underlying3 (hval 1 3 v1 rfl rfl) h1
  clear hA0 hval0
  refine (walk W cs0 a0 w0 a1 (wf_bounds w1).1 (wf_bounds w1).2).mono fun e W' ⟨he, hgro⟩ => ?_
  subst he
  have bel := hgro.below
  exact ⟨_, rfl, _, _, _, [], _, [], hW', trodAll_mk1 (shut_bool Try.underlying4 _), (trodAll_cons_mk (Below.trod laidOut (by kernel_rfl) (of_decide_eq_true (by kernel_rfl)) k0 bel lt0) (trodAll_cons_mk (Below.trod laidOut (by kernel_rfl) (of_decide_eq_true (by kernel_rfl)) k1 bel lt1) trodAll_mk0)), rfl, bel.frame _, fun h => by cases h⟩
theorem over : Rows.fnExactFireTicksRow.holds Try.pinned (OpenSpec.ofChange Rows.fnExactFireTicksSpec) :=
  OpenClaim.holds_of_wide 9 Try.f9 rfl rfl rfl rfl rfl rfl rfl ⟨rfl, rfl, rfl, rfl, rfl⟩ rfl rfl rfl rfl rfl (by kernel_rfl) Try.func9 (by kernel_rfl)
    (of_decide_eq_true (by kernel_rfl)) (by unfold Func.isWrapper; first | (rw [if_pos (by decide +kernel)]; kernel_rfl) | (rw [if_neg (by decide +kernel)]; exact ⟨rfl, rfl⟩))
    (fun os started H enc _ => lifted os started H enc)
/-- THE STATEMENT -/
theorem proved : Rows.FnExactFireTicksSaid := over
#print axioms proved
end Go.Proofs.Ytgenkhlekhilbaa.fnExactFireTicks
