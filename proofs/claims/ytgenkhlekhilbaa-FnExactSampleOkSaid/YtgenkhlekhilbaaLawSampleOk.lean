/-
  The law FnExactSampleOk answers true for every input: the program's SampleOk and the reference's both compute sampleOk. No condition.
-/
import Derived.Test.YtgenkhlekhilbaaRows
import Derived.Test.YtgenkhlekhilbaaOpen
import Derived.Test.YtgenkhlekhilbaaSample
import Derived.ShutString
namespace Go.Proofs.Ytgenkhlekhilbaa.fnExactSampleOk
open Go.ChangeShapes Go.WideShapes Go.ChangeAt Go.RowKit
open Go.ChangeMaps (open_string shut_string)
theorem own : ownKnob Try.prog.godebug = none := by kernel_rfl
theorem laidOut : laidOutB Try.prog = true := by kernel_rfl
theorem smp_rec {w W : World} {r : DSample} {A : Option Addr} {c : Nat} (h : Fresh tSample w W [.int .i64 r.Thread, .int .i64 r.View.Pc, .int .i64 r.View.Sp, .int .i64 r.View.Fp, .slice A r.View.Words.length c] r) : (intT.sl 3).R W W.heap.size [.slice A r.View.Words.length c] r.View.Words := by
  obtain ⟨S, hO, _, _⟩ := h
  obtain ⟨A1, c1, hc, _, _, _, _, h1⟩ := tSample_R (Ty.read _ hO)
  simp only [List.cons.injEq, Value.slice.injEq, true_and, and_true] at hc
  obtain ⟨rfl, rfl⟩ := hc
  exact h1
theorem walk (w : World) (cs : Array Value) (r : DSample) (h : tSample.R w w.heap.size cs.toList r) :
    Calls Try.prog 12 #[.agg cs] w fun e w' => e = .returned (.bool true) ∧ Gro w w' := by
  obtain ⟨A0, c0, hcs, h0, h1, h2, h3, h4⟩ := tSample_R h
  obtain rfl := Array.toList_inj.1 (show cs.toList = (#[.int .i64 r.Thread, .int .i64 r.View.Pc, .int .i64 r.View.Sp, .int .i64 r.View.Fp, .slice A0 r.View.Words.length c0] : Array Value).toList from hcs)
  clear h hcs
  by_cases hsz : szSample r ≤ 1048576
  · have hl : r.View.Words.length ≤ 1048576 := Nat.le_trans (by simp [szSample, szView]) hsz
    have e0 : szRes 1048576 (szSample r) = 1048576 - (szSample r : Nat) := if_pos (by omega)
    go_enter Try.func12, Try.ntmps12
    go_wp2_with (fail)
    refine (szSample_l (x := r) (Ty.up _ h4 (by repeat (first | with_reducible exact Gro.refl _ | with_reducible exact Gro.refl_drew _ _ _ | with_reducible exact Gro.refl_drewN _ _ _ _ | assumption | with_reducible apply Gro.more | with_reducible apply Gro.alloc | with_reducible apply Gro.drew | with_reducible apply Gro.drewN))) (by omega) (by omega)).mono ?_
    rintro e w1 ⟨rfl, os0, d0, rfl⟩
    go_wp2_with (fail)
    refine (toSample_l (x := r) h0 h1 h2 h3 (Ty.up _ h4 (by repeat (first | with_reducible exact Gro.refl _ | with_reducible exact Gro.refl_drew _ _ _ | with_reducible exact Gro.refl_drewN _ _ _ _ | assumption | with_reducible apply Gro.more | with_reducible apply Gro.alloc | with_reducible apply Gro.drew | with_reducible apply Gro.drewN))) (by omega)).mono ?_
    rintro e w1 ⟨A1, c1, rfl, hF1, os1, d1, rfl⟩
    go_wp2_with (fail)
    refine (sampleOk_s (x := r) (Ty.up _ (smp_rec hF1) (by repeat (first | with_reducible exact Gro.refl _ | with_reducible exact Gro.refl_drew _ _ _ | with_reducible exact Gro.refl_drewN _ _ _ _ | assumption | with_reducible apply Gro.more | with_reducible apply Gro.alloc | with_reducible apply Gro.drew | with_reducible apply Gro.drewN))) (by omega)).mono ?_
    rintro e w1 ⟨rfl, os2, d2, rfl⟩
    go_wp2_with (fail)
    refine (toSample_l (x := r) h0 h1 h2 h3 (Ty.up _ h4 (by repeat (first | with_reducible exact Gro.refl _ | with_reducible exact Gro.refl_drew _ _ _ | with_reducible exact Gro.refl_drewN _ _ _ _ | assumption | with_reducible apply Gro.more | with_reducible apply Gro.alloc | with_reducible apply Gro.drew | with_reducible apply Gro.drewN))) (by omega)).mono ?_
    rintro e w1 ⟨A3, c3, rfl, hF3, os3, d3, rfl⟩
    go_wp2_with (fail)
    refine (sampleOk_i (x := r) (Ty.up _ (smp_rec hF3) (by repeat (first | with_reducible exact Gro.refl _ | with_reducible exact Gro.refl_drew _ _ _ | with_reducible exact Gro.refl_drewN _ _ _ _ | assumption | with_reducible apply Gro.more | with_reducible apply Gro.alloc | with_reducible apply Gro.drew | with_reducible apply Gro.drewN))) (by omega)).mono ?_
    rintro e w1 ⟨rfl, os4, d4, rfl⟩
    go_wp2_with (fail)
    go_region_held3 (fun w' => w'.cell? ⟨w.heap.size + 1 + os0.size + os1.size + os2.size + os3.size, 0, none⟩ = some (.int .i64 r.Thread) ∧ w'.cell? ⟨w.heap.size + 1 + os0.size + os1.size + os2.size + os3.size, 1, none⟩ = some (.int .i64 r.View.Pc) ∧ w'.cell? ⟨w.heap.size + 1 + os0.size + os1.size + os2.size + os3.size, 2, none⟩ = some (.int .i64 r.View.Sp) ∧ w'.cell? ⟨w.heap.size + 1 + os0.size + os1.size + os2.size + os3.size, 3, none⟩ = some (.int .i64 r.View.Fp) ∧ w'.cell? ⟨w.heap.size + 1 + os0.size + os1.size + os2.size + os3.size, 4, none⟩ = some (.slice A3 r.View.Words.length c3) ∧ w'.cell? ⟨w.heap.size, 0, none⟩ = some (.int .i64 r.Thread) ∧ w'.cell? ⟨w.heap.size, 1, none⟩ = some (.int .i64 r.View.Pc) ∧ w'.cell? ⟨w.heap.size, 2, none⟩ = some (.int .i64 r.View.Sp) ∧ w'.cell? ⟨w.heap.size, 3, none⟩ = some (.int .i64 r.View.Fp) ∧ w'.cell? ⟨w.heap.size, 4, none⟩ = some (.slice A0 r.View.Words.length c0)) (simp [go_sem]) (first
      | (go_at_call 47; refine (toSample_l (x := r) h0 h1 h2 h3 (Ty.up _ h4 (by repeat (first | with_reducible exact Gro.refl _ | with_reducible exact Gro.refl_drew _ _ _ | with_reducible exact Gro.refl_drewN _ _ _ _ | assumption | with_reducible apply Gro.more | with_reducible apply Gro.alloc | with_reducible apply Gro.drew | with_reducible apply Gro.drewN))) (by omega)).mono ?_; rintro e w1 ⟨A5, c5, rfl, hF5, os5, d5, rfl⟩)
      | (go_at_call 49; refine (eqSample_l (x := r) (y := r) (Ty.up _ (smp_rec hF3) (by repeat (first | with_reducible exact Gro.refl _ | with_reducible exact Gro.refl_drew _ _ _ | with_reducible exact Gro.refl_drewN _ _ _ _ | assumption | with_reducible apply Gro.more | with_reducible apply Gro.alloc | with_reducible apply Gro.drew | with_reducible apply Gro.drewN))) (Ty.up _ (smp_rec hF5) (by repeat (first | with_reducible exact Gro.refl _ | with_reducible exact Gro.refl_drew _ _ _ | with_reducible exact Gro.refl_drewN _ _ _ _ | assumption | with_reducible apply Gro.more | with_reducible apply Gro.alloc | with_reducible apply Gro.drew | with_reducible apply Gro.drewN)))).mono ?_; rintro e w1 ⟨rfl, os6, d6, rfl⟩))
    go_wp2
    go_ret
    exact ⟨rfl, (by repeat (first | with_reducible exact Gro.refl _ | with_reducible exact Gro.refl_drew _ _ _ | with_reducible exact Gro.refl_drewN _ _ _ _ | assumption | with_reducible apply Gro.more | with_reducible apply Gro.alloc | with_reducible apply Gro.drew | with_reducible apply Gro.drewN))⟩
  · have e0 : szRes 1048576 (szSample r) = -1 := if_neg (by omega)
    go_enter Try.func12, Try.ntmps12
    go_wp2_with (fail)
    refine (szSample_l (x := r) (Ty.up _ h4 (by repeat (first | with_reducible exact Gro.refl _ | with_reducible exact Gro.refl_drew _ _ _ | with_reducible exact Gro.refl_drewN _ _ _ _ | assumption | with_reducible apply Gro.more | with_reducible apply Gro.alloc | with_reducible apply Gro.drew | with_reducible apply Gro.drewN))) (by omega) (by omega)).mono ?_
    rintro e w1 ⟨rfl, os0, d0, rfl⟩
    go_wp2
    go_ret
    exact ⟨rfl, (by repeat (first | with_reducible exact Gro.refl _ | with_reducible exact Gro.refl_drew _ _ _ | with_reducible exact Gro.refl_drewN _ _ _ _ | assumption | with_reducible apply Gro.more | with_reducible apply Gro.alloc | with_reducible apply Gro.drew | with_reducible apply Gro.drewN))⟩

set_option linter.unusedVariables false
set_option maxRecDepth 100000 in
theorem lifted (os : Os) (started : os.Started) (H : Type) (enc : TypeId × Value → H) :
    ReturnsInHanded {} Try.checked os 12 .any (Rows.fnExactSampleOkSpec.pre6 enc Try.prog Try.f12 Rows.fnExactSampleOkRow.domain false) (Rows.fnExactSampleOkSpec.post enc Try.prog Try.f12 false true false false) := by
  refine returnsInHanded_of_change (C := Try.checked) own started (by kernel_rfl) Try.func12
    (ChangeSpec.witness6 (enc := enc) (C := Try.checked) false ⟨#[], #[.agg #[.int .i64 0, .int .i64 0, .int .i64 0, .int .i64 0, .slice none 0 0]], []⟩ 8 (by kernel_rfl) (by kernel_rfl) (by kernel_rfl) (by kernel_rfl)) ?_
  intro W base args ds gs before hval0 hW hcnd _
  have hval : ∀ (j : Nat) t v, Try.f12.params[j]? = some t → args[j]? = some v → Value.okWide Try.prog W .any base t v := hval0
  have hW' := hW
  obtain ⟨p, q, hA0, hV, rfl, hfz, hnd⟩ := hW
  have hA : DataW.TrodAll enc Try.prog W 0 (fun _ => true) true Try.f12.params.toList args.toList ds p := hA0
  rw [Try.params12] at hA hval
  obtain ⟨v0, vs0, d0, ds0, p0, q0, hargs, rfl, rfl, h0, r0⟩ := trodAll_cons hA
  obtain ⟨rfl, rfl, rfl⟩ := trodAll_nil r0
  obtain rfl : args = #[v0] := by cases args; simp_all
  obtain ⟨rfl, rfl⟩ := trodVars_none hV
  have k0 := h0
  have lt0 : ∀ x ∈ p0, x.block < W.heap.size := by obtain ⟨m, hm⟩ := k0; exact DataW.trod_lt m _ _ _ hm
  obtain ⟨cs0, rfl⟩ := arg_agg Try.underlying64 (hval 0 64 v0 rfl rfl)
  obtain ⟨a0, w0⟩ := arg_open tSample_opens h0
  clear hA0 hval0
  refine (walk W cs0 a0 w0).mono fun e W' ⟨he, hgro⟩ => ?_
  subst he
  have bel := hgro.below
  exact ⟨_, rfl, _, _, _, [], _, [], hW', trodAll_mk1 (shut_bool Try.underlying4 _), (trodAll_cons_mk (Below.trod laidOut (by kernel_rfl) (of_decide_eq_true (by kernel_rfl)) k0 bel lt0) trodAll_mk0), rfl, bel.frame _, fun h => by cases h⟩
theorem over : Rows.fnExactSampleOkRow.holds Try.pinned (OpenSpec.ofChange Rows.fnExactSampleOkSpec) :=
  OpenClaim.holds_of_wide 12 Try.f12 rfl rfl rfl rfl rfl rfl rfl ⟨rfl, rfl, rfl, rfl, rfl⟩ rfl rfl rfl rfl rfl (by kernel_rfl) Try.func12 (by kernel_rfl)
    (of_decide_eq_true (by kernel_rfl)) (by unfold Func.isWrapper; first | (rw [if_pos (by decide +kernel)]; kernel_rfl) | (rw [if_neg (by decide +kernel)]; exact ⟨rfl, rfl⟩))
    (fun os started H enc _ => lifted os started H enc)
/-- THE STATEMENT -/
theorem proved : Rows.FnExactSampleOkSaid := over
#print axioms proved
end Go.Proofs.Ytgenkhlekhilbaa.fnExactSampleOk
