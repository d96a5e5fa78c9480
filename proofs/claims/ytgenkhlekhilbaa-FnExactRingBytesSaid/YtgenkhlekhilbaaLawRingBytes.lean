/-
  The law FnExactRingBytes answers true for every input: the program's RingBytes and the reference's both give the bytes of a valid ring, 0 of another. No condition.
-/
import Derived.Test.YtgenkhlekhilbaaRows
import Derived.Test.YtgenkhlekhilbaaOpen
import Derived.Test.YtgenkhlekhilbaaRing2
import Derived.ShutString
namespace Go.Proofs.Ytgenkhlekhilbaa.fnExactRingBytes
open Go.ChangeShapes Go.WideShapes Go.ChangeAt Go.RowKit
open Go.ChangeMaps (open_string shut_string)
theorem own : ownKnob Try.prog.godebug = none := by kernel_rfl
theorem laidOut : laidOutB Try.prog = true := by kernel_rfl
theorem walk (w : World) (cs : Array Value) (r : DRing) (h : tRing.R w w.heap.size cs.toList r) :
    Calls Try.prog 8 #[.agg cs] w fun e w' => e = .returned (.bool true) ∧ Gro w w' := by
  obtain ⟨A0, c0, hcs, h0, h1, h2, h3⟩ := tRing_R h
  obtain rfl := Array.toList_inj.1 (show cs.toList = (#[.int .i64 r.Capacity, .slice A0 r.Records.length c0, .int .i64 r.Written, .int .i64 r.Lost] : Array Value).toList from hcs)
  clear h hcs
  by_cases hsz : szRing r ≤ 1048576
  · have hl : r.Records.length ≤ 1048576 := Nat.le_trans (Nat.le_add_right _ _) hsz
    have hs : sumS r.Records ≤ 1048576 := Nat.le_trans (Nat.le_add_left _ _) hsz
    have e0 : szRes 1048576 (szRing r) = 1048576 - (szRing r : Nat) := if_pos (by omega)
    go_enter Try.func8, Try.ntmps8
    go_wp2_with (fail)
    refine (szRing_l (x := r) (Ty.up _ h1 (by repeat (first | with_reducible exact Gro.refl _ | with_reducible exact Gro.refl_drew _ _ _ | with_reducible exact Gro.refl_drewN _ _ _ _ | assumption | with_reducible apply Gro.more | with_reducible apply Gro.alloc | with_reducible apply Gro.drew | with_reducible apply Gro.drewN))) (by omega) (by omega)).mono ?_
    rintro e w1 ⟨rfl, os0, d0, rfl⟩
    go_wp2_with (fail)
    refine (toRing_l (x := r) h0 (Ty.up _ h1 (by repeat (first | with_reducible exact Gro.refl _ | with_reducible exact Gro.refl_drew _ _ _ | with_reducible exact Gro.refl_drewN _ _ _ _ | assumption | with_reducible apply Gro.more | with_reducible apply Gro.alloc | with_reducible apply Gro.drew | with_reducible apply Gro.drewN))) h2 h3 (by omega)).mono ?_
    rintro e w1 ⟨A1, c1, rfl, hF1, os1, d1, rfl⟩
    go_wp2_with (fail)
    refine (ringBytes_s (r := r) (Ty.up _ (ring_rec hF1).read (by repeat (first | with_reducible exact Gro.refl _ | with_reducible exact Gro.refl_drew _ _ _ | with_reducible exact Gro.refl_drewN _ _ _ _ | assumption | with_reducible apply Gro.more | with_reducible apply Gro.alloc | with_reducible apply Gro.drew | with_reducible apply Gro.drewN))) (by omega)).mono ?_
    rintro e w1 ⟨rfl, os2, d2, rfl⟩
    go_wp2_with (fail)
    refine (toRing_l (x := r) h0 (Ty.up _ h1 (by repeat (first | with_reducible exact Gro.refl _ | with_reducible exact Gro.refl_drew _ _ _ | with_reducible exact Gro.refl_drewN _ _ _ _ | assumption | with_reducible apply Gro.more | with_reducible apply Gro.alloc | with_reducible apply Gro.drew | with_reducible apply Gro.drewN))) h2 h3 (by omega)).mono ?_
    rintro e w1 ⟨A3, c3, rfl, hF3, os3, d3, rfl⟩
    go_wp2_with (fail)
    refine (ringBytes_i (r := r) (Ty.up _ (ring_rec hF3).read (by repeat (first | with_reducible exact Gro.refl _ | with_reducible exact Gro.refl_drew _ _ _ | with_reducible exact Gro.refl_drewN _ _ _ _ | assumption | with_reducible apply Gro.more | with_reducible apply Gro.alloc | with_reducible apply Gro.drew | with_reducible apply Gro.drewN))) (by omega)).mono ?_
    rintro e w1 ⟨rfl, os4, d4, rfl⟩
    go_wp2_with (fail)
    go_region_held3 (fun w' => w'.cell? ⟨w.heap.size + 1 + os0.size + os1.size + os2.size + os3.size, 0, none⟩ = some (.int .i64 r.Capacity) ∧ w'.cell? ⟨w.heap.size + 1 + os0.size + os1.size + os2.size + os3.size, 1, none⟩ = some (.slice A3 r.Records.length c3) ∧ w'.cell? ⟨w.heap.size + 1 + os0.size + os1.size + os2.size + os3.size, 2, none⟩ = some (.int .i64 r.Written) ∧ w'.cell? ⟨w.heap.size + 1 + os0.size + os1.size + os2.size + os3.size, 3, none⟩ = some (.int .i64 r.Lost) ∧
        w'.cell? ⟨w.heap.size, 0, none⟩ = some (.int .i64 r.Capacity) ∧ w'.cell? ⟨w.heap.size, 1, none⟩ = some (.slice A0 r.Records.length c0) ∧ w'.cell? ⟨w.heap.size, 2, none⟩ = some (.int .i64 r.Written) ∧ w'.cell? ⟨w.heap.size, 3, none⟩ = some (.int .i64 r.Lost)) (simp [go_sem]) (first
      | (go_at_call 27; refine (toRing_l (x := r) h0 (Ty.up _ h1 (by repeat (first | with_reducible exact Gro.refl _ | with_reducible exact Gro.refl_drew _ _ _ | with_reducible exact Gro.refl_drewN _ _ _ _ | assumption | with_reducible apply Gro.more | with_reducible apply Gro.alloc | with_reducible apply Gro.drew | with_reducible apply Gro.drewN))) h2 h3 (by omega)).mono ?_; rintro e w1 ⟨A5, c5, rfl, hF5, os5, d5, rfl⟩)
      | (go_at_call 29; refine (eqRing_l (x := r) (y := r) (Ty.up _ (ring_rec hF3).read (by repeat (first | with_reducible exact Gro.refl _ | with_reducible exact Gro.refl_drew _ _ _ | with_reducible exact Gro.refl_drewN _ _ _ _ | assumption | with_reducible apply Gro.more | with_reducible apply Gro.alloc | with_reducible apply Gro.drew | with_reducible apply Gro.drewN))) (Ty.up _ (ring_rec hF5).read (by repeat (first | with_reducible exact Gro.refl _ | with_reducible exact Gro.refl_drew _ _ _ | with_reducible exact Gro.refl_drewN _ _ _ _ | assumption | with_reducible apply Gro.more | with_reducible apply Gro.alloc | with_reducible apply Gro.drew | with_reducible apply Gro.drewN)))).mono ?_; rintro e w1 ⟨rfl, os6, d6, rfl⟩))
    go_wp2
    go_ret
    exact ⟨rfl, (by repeat (first | with_reducible exact Gro.refl _ | with_reducible exact Gro.refl_drew _ _ _ | with_reducible exact Gro.refl_drewN _ _ _ _ | assumption | with_reducible apply Gro.more | with_reducible apply Gro.alloc | with_reducible apply Gro.drew | with_reducible apply Gro.drewN))⟩
  · have e0 : szRes 1048576 (szRing r) = -1 := if_neg (by omega)
    go_enter Try.func8, Try.ntmps8
    go_wp2_with (fail)
    refine (szRing_l (x := r) (Ty.up _ h1 (by repeat (first | with_reducible exact Gro.refl _ | with_reducible exact Gro.refl_drew _ _ _ | with_reducible exact Gro.refl_drewN _ _ _ _ | assumption | with_reducible apply Gro.more | with_reducible apply Gro.alloc | with_reducible apply Gro.drew | with_reducible apply Gro.drewN))) (by omega) (by omega)).mono ?_
    rintro e w1 ⟨rfl, os0, d0, rfl⟩
    go_wp2
    go_ret
    exact ⟨rfl, (by repeat (first | with_reducible exact Gro.refl _ | with_reducible exact Gro.refl_drew _ _ _ | with_reducible exact Gro.refl_drewN _ _ _ _ | assumption | with_reducible apply Gro.more | with_reducible apply Gro.alloc | with_reducible apply Gro.drew | with_reducible apply Gro.drewN))⟩

set_option linter.unusedVariables false
set_option maxRecDepth 100000 in
theorem lifted (os : Os) (started : os.Started) (H : Type) (enc : TypeId × Value → H) :
    ReturnsInHanded {} Try.checked os 8 .any (Rows.fnExactRingBytesSpec.pre6 enc Try.prog Try.f8 Rows.fnExactRingBytesRow.domain false) (Rows.fnExactRingBytesSpec.post enc Try.prog Try.f8 false true false false) := by
  refine returnsInHanded_of_change (C := Try.checked) own started (by kernel_rfl) Try.func8
    (ChangeSpec.witness6 (enc := enc) (C := Try.checked) false ⟨#[], #[.agg #[.int .i64 0, .slice none 0 0, .int .i64 0, .int .i64 0]], []⟩ 8 (by kernel_rfl) (by kernel_rfl) (by kernel_rfl) (by kernel_rfl)) ?_
  intro W base args ds gs before hval0 hW hcnd _
  have hval : ∀ (j : Nat) t v, Try.f8.params[j]? = some t → args[j]? = some v → Value.okWide Try.prog W .any base t v := hval0
  have hW' := hW
  obtain ⟨p, q, hA0, hV, rfl, hfz, hnd⟩ := hW
  have hA : DataW.TrodAll enc Try.prog W 0 (fun _ => true) true Try.f8.params.toList args.toList ds p := hA0
  rw [Try.params8] at hA hval
  obtain ⟨v0, vs0, d0, ds0, p0, q0, hargs, rfl, rfl, h0, r0⟩ := trodAll_cons hA
  obtain ⟨rfl, rfl, rfl⟩ := trodAll_nil r0
  obtain rfl : args = #[v0] := by cases args; simp_all
  obtain ⟨rfl, rfl⟩ := trodVars_none hV
  have k0 := h0
  have lt0 : ∀ x ∈ p0, x.block < W.heap.size := by obtain ⟨m, hm⟩ := k0; exact DataW.trod_lt m _ _ _ hm
  obtain ⟨cs0, rfl⟩ := arg_agg Try.underlying37 (hval 0 37 v0 rfl rfl)
  obtain ⟨a0, w0⟩ := arg_open tRing_opens h0
  clear hA0 hval0
  refine (walk W cs0 a0 w0).mono fun e W' ⟨he, hgro⟩ => ?_
  subst he
  have bel := hgro.below
  exact ⟨_, rfl, _, _, _, [], _, [], hW', trodAll_mk1 (shut_bool Try.underlying4 _), (trodAll_cons_mk (Below.trod laidOut (by kernel_rfl) (of_decide_eq_true (by kernel_rfl)) k0 bel lt0) trodAll_mk0), rfl, bel.frame _, fun h => by cases h⟩
theorem over : Rows.fnExactRingBytesRow.holds Try.pinned (OpenSpec.ofChange Rows.fnExactRingBytesSpec) :=
  OpenClaim.holds_of_wide 8 Try.f8 rfl rfl rfl rfl rfl rfl rfl ⟨rfl, rfl, rfl, rfl, rfl⟩ rfl rfl rfl rfl rfl (by kernel_rfl) Try.func8 (by kernel_rfl)
    (of_decide_eq_true (by kernel_rfl)) (by unfold Func.isWrapper; first | (rw [if_pos (by decide +kernel)]; kernel_rfl) | (rw [if_neg (by decide +kernel)]; exact ⟨rfl, rfl⟩))
    (fun os started H enc _ => lifted os started H enc)
/-- THE STATEMENT -/
theorem proved : Rows.FnExactRingBytesSaid := over
#print axioms proved
end Go.Proofs.Ytgenkhlekhilbaa.fnExactRingBytes
