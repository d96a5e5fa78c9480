/-
  The law FnExactTickTimer answers true for every input: the program's TickTimer and the reference's both compute tick. No condition.
-/
import Derived.Test.YtgenkhlekhilbaaRows
import Derived.Test.YtgenkhlekhilbaaOpen
import Derived.Test.YtgenkhlekhilbaaTimer
import Derived.ShutString
namespace Go.Proofs.Ytgenkhlekhilbaa.fnExactTickTimer
open Go.ChangeShapes Go.WideShapes Go.ChangeAt Go.RowKit
open Go.ChangeMaps (open_string shut_string)
theorem own : ownKnob Try.prog.godebug = none := by kernel_rfl
theorem laidOut : laidOutB Try.prog = true := by kernel_rfl
theorem walk (cs : Array Value) (t : DTimer) {W : World} (h : tTimer.R W W.heap.size cs.toList t) (w : World) :
    Calls Try.prog 6 #[.agg cs] w fun e w' => e = .returned (.bool true) ∧ Gro w w' := by
  obtain ⟨hcs, _⟩ := tTimer_R h
  obtain rfl := Array.toList_inj.1 (show cs.toList = (#[.int .i64 t.Period, .int .i64 t.Spread, .int .i64 t.Left, .int .i64 t.State] : Array Value).toList from hcs)
  clear h hcs
  go_enter Try.func6, Try.ntmps6
  go_wp2_with (first
    | (go_at_call 18; refine (toTimer_l _ _ _ _ _).mono ?_; rintro e w1 ⟨rfl, os, d, rfl⟩)
    | (go_at_call 23; refine (tick_s t _).mono ?_; rintro e w1 ⟨rfl, os, d, rfl⟩)
    | (go_at_call 24; refine (tick_i t _).mono ?_; rintro e w1 ⟨rfl, os, d, rfl⟩)
    | (go_at_call 22; refine (eqTimer_l (tick t).1 (tick t).1 _).mono ?_; rintro e w1 ⟨rfl, os, d, rfl⟩))
  go_ret
  exact ⟨rfl, by repeat (first | exact Gro.refl _ | apply Gro.more | apply Gro.alloc | apply Gro.drew)⟩

set_option linter.unusedVariables false
set_option maxRecDepth 100000 in
theorem lifted (os : Os) (started : os.Started) (H : Type) (enc : TypeId × Value → H) :
    ReturnsInHanded {} Try.checked os 6 .any (Rows.fnExactTickTimerSpec.pre6 enc Try.prog Try.f6 Rows.fnExactTickTimerRow.domain false) (Rows.fnExactTickTimerSpec.post enc Try.prog Try.f6 false true false false) := by
  refine returnsInHanded_of_change (C := Try.checked) own started (by kernel_rfl) Try.func6
    (ChangeSpec.witness6 (enc := enc) (C := Try.checked) false ⟨#[], #[.agg #[.int .i64 0, .int .i64 0, .int .i64 0, .int .i64 0]], []⟩ 8 (by kernel_rfl) (by kernel_rfl) (by kernel_rfl) (by kernel_rfl)) ?_
  intro W base args ds gs before hval0 hW hcnd _
  have hval : ∀ (j : Nat) t v, Try.f6.params[j]? = some t → args[j]? = some v → Value.okWide Try.prog W .any base t v := hval0
  have hW' := hW
  obtain ⟨p, q, hA0, hV, rfl, hfz, hnd⟩ := hW
  have hA : DataW.TrodAll enc Try.prog W 0 (fun _ => true) true Try.f6.params.toList args.toList ds p := hA0
  rw [Try.params6] at hA hval
  obtain ⟨v0, vs0, d0, ds0, p0, q0, hargs, rfl, rfl, h0, r0⟩ := trodAll_cons hA
  obtain ⟨rfl, rfl, rfl⟩ := trodAll_nil r0
  obtain rfl : args = #[v0] := by cases args; simp_all
  obtain ⟨rfl, rfl⟩ := trodVars_none hV
  have k0 := h0
  have lt0 : ∀ x ∈ p0, x.block < W.heap.size := by obtain ⟨m, hm⟩ := k0; exact DataW.trod_lt m _ _ _ hm
  obtain ⟨cs0, rfl⟩ := arg_agg Try.underlying25 (hval 0 25 v0 rfl rfl)
  obtain ⟨a0, w0⟩ := arg_open tTimer_opens h0
  clear hA0 hval0
  refine (walk cs0 a0 w0 W).mono fun e W' ⟨he, hgro⟩ => ?_
  subst he
  have bel := hgro.below
  exact ⟨_, rfl, _, _, _, [], _, [], hW', trodAll_mk1 (shut_bool Try.underlying4 _), (trodAll_cons_mk (Below.trod laidOut (by kernel_rfl) (of_decide_eq_true (by kernel_rfl)) k0 bel lt0) trodAll_mk0), rfl, bel.frame _, fun h => by cases h⟩
theorem over : Rows.fnExactTickTimerRow.holds Try.pinned (OpenSpec.ofChange Rows.fnExactTickTimerSpec) :=
  OpenClaim.holds_of_wide 6 Try.f6 rfl rfl rfl rfl rfl rfl rfl ⟨rfl, rfl, rfl, rfl, rfl⟩ rfl rfl rfl rfl rfl (by kernel_rfl) Try.func6 (by kernel_rfl)
    (of_decide_eq_true (by kernel_rfl)) (by unfold Func.isWrapper; first | (rw [if_pos (by decide +kernel)]; kernel_rfl) | (rw [if_neg (by decide +kernel)]; exact ⟨rfl, rfl⟩))
    (fun os started H enc _ => lifted os started H enc)
/-- THE STATEMENT -/
theorem proved : Rows.FnExactTickTimerSaid := over
#print axioms proved
end Go.Proofs.Ytgenkhlekhilbaa.fnExactTickTimer
