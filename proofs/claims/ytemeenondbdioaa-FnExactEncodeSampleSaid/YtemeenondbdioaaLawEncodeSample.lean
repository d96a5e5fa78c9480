/-
  The law FnExactEncodeSample answers true for every input: the program and the reference compute the same; the arguments stay; the result is of its own memory. No condition.
-/
import Derived.Test.YtemeenondbdioaaRows
import Derived.Test.YtemeenondbdioaaOpen
import Derived.Test.YtemeenondbdioaaSample2
import Derived.ShutString
import Derived.Deep.RegionHeld3
set_option linter.unusedVariables false
set_option linter.unusedSimpArgs false
namespace Go.Proofs.Ytemeenondbdioaa.fnExactEncodeSample
open Go.ChangeShapes Go.WideShapes Go.ChangeAt Go.RowKit
open Go.ChangeMaps (open_string shut_string)
theorem own : ownKnob Try.prog.godebug = none := by kernel_rfl
theorem laidOut : laidOutB Try.prog = true := by kernel_rfl
theorem rdSample {w : World} {B : Nat} {x : DSample} {A0 : Option Addr} {c0 : Nat} (h : tSample.R w B [.int .i64 x.Thread, .int .i64 x.View.Pc, .int .i64 x.View.Sp, .int .i64 x.View.Fp, .slice A0 x.View.Words.length c0] x) : I64 x.Thread ∧ I64 x.View.Pc ∧ I64 x.View.Sp ∧ I64 x.View.Fp ∧ (intT.sl 3).R w B [.slice A0 x.View.Words.length c0] x.View.Words := by
  obtain ⟨A0', c0', hc, f0, f1, f2, f3, f4⟩ := tSample_R h
  simp only [List.cons.injEq, Value.slice.injEq, true_and, and_true] at hc
  obtain ⟨rfl, rfl⟩ := hc
  exact ⟨f0, f1, f2, f3, f4⟩
set_option maxRecDepth 100000 in
set_option maxHeartbeats 4000000 in
theorem walk (w : World) (cs_x : Array Value) (x : DSample) (h_x : tSample.R w w.heap.size cs_x.toList x) :
    Calls Try.prog 3 #[.agg cs_x] w fun e w' => e = .returned (.bool true) ∧ Gro w w' := by
  obtain ⟨A0, c0, hcs_x, p_x0, p_x1, p_x2, p_x3, p_x4⟩ := tSample_R h_x
  obtain rfl := Array.toList_inj.1 (show cs_x.toList = (#[.int .i64 x.Thread, .int .i64 x.View.Pc, .int .i64 x.View.Sp, .int .i64 x.View.Fp, .slice A0 x.View.Words.length c0] : Array Value).toList from hcs_x)
  clear h_x hcs_x
  obtain ⟨n0, hn0⟩ : ∃ n, szSample x = n := ⟨_, rfl⟩
  by_cases hz0 : (n0 : Int) ≤ 1048576
  case neg =>
    have e0 : szRes (1048576) (szSample x) = -1 := by rw [hn0]; exact if_neg (by omega)
    clear hn0
    go_enter Try.func3, Try.ntmps3
    go_wp2_with (fail)
    refine (szSample_l (x := x) (Ty.up _ p_x4 (by repeat (first | with_reducible exact Gro.refl _ | with_reducible exact Gro.refl_drew _ _ _ | with_reducible exact Gro.refl_drewN _ _ _ _ | assumption | with_reducible apply Gro.more | with_reducible apply Gro.alloc | with_reducible apply Gro.drew | with_reducible apply Gro.drewN))) (by omega) (by omega)).mono ?_
    rintro e w1 ⟨rfl, os0, d0, rfl⟩
    go_wp2
    go_ret
    exact ⟨rfl, (by repeat (first | with_reducible exact Gro.refl _ | with_reducible exact Gro.refl_drew _ _ _ | with_reducible exact Gro.refl_drewN _ _ _ _ | assumption | with_reducible apply Gro.more | with_reducible apply Gro.alloc | with_reducible apply Gro.drew | with_reducible apply Gro.drewN))⟩
  have e0 : szRes (1048576) (szSample x) = 1048576 - (n0 : Int) := by rw [hn0]; exact if_pos (by omega)
  have hl_x0 : x.View.Words.length ≤ 1048576 := by have h := hn0; unfold szSample szView at h; omega
  have hs_x : szSample x ≤ 1048576 := by omega
  have HN0 := Lib.hid hn0
  clear hn0
  obtain ⟨p, hp⟩ : ∃ p, Hid (encS x = p) := ⟨_, Lib.hid rfl⟩
  go_enter Try.func3, Try.ntmps3
  go_wp2_with (fail)
  refine (szSample_l (x := x) (Ty.up _ p_x4 (by repeat (first | with_reducible exact Gro.refl _ | with_reducible exact Gro.refl_drew _ _ _ | with_reducible exact Gro.refl_drewN _ _ _ _ | assumption | with_reducible apply Gro.more | with_reducible apply Gro.alloc | with_reducible apply Gro.drew | with_reducible apply Gro.drewN))) (by omega) (by omega)).mono ?_
  rintro e w1 ⟨rfl, os0, d0, rfl⟩
  go_wp2_with (fail)
  refine (toSample_l (x := x) p_x0 p_x1 p_x2 p_x3 (Ty.up _ p_x4 (by repeat (first | with_reducible exact Gro.refl _ | with_reducible exact Gro.refl_drew _ _ _ | with_reducible exact Gro.refl_drewN _ _ _ _ | assumption | with_reducible apply Gro.more | with_reducible apply Gro.alloc | with_reducible apply Gro.drew | with_reducible apply Gro.drewN))) (by omega)).mono ?_
  rintro e w1 ⟨A2_0, c2_0, rfl, hF2, os2, d2, rfl⟩
  go_wp2_with (fail)
  refine (encS_s (x := x) (rdSample hF2.read).1 (rdSample hF2.read).2.1 (rdSample hF2.read).2.2.1 (rdSample hF2.read).2.2.2.1 (Ty.up _ (rdSample hF2.read).2.2.2.2 (by repeat (first | with_reducible exact Gro.refl _ | with_reducible exact Gro.refl_drew _ _ _ | with_reducible exact Gro.refl_drewN _ _ _ _ | assumption | with_reducible apply Gro.more | with_reducible apply Gro.alloc | with_reducible apply Gro.drew | with_reducible apply Gro.drewN))) (by omega)).mono ?_
  rw [hp.out]
  rintro e w1 ⟨rfl, os3, d3, rfl⟩
  go_wp2_with (fail)
  refine (toSample_l (x := x) p_x0 p_x1 p_x2 p_x3 (Ty.up _ p_x4 (by repeat (first | with_reducible exact Gro.refl _ | with_reducible exact Gro.refl_drew _ _ _ | with_reducible exact Gro.refl_drewN _ _ _ _ | assumption | with_reducible apply Gro.more | with_reducible apply Gro.alloc | with_reducible apply Gro.drew | with_reducible apply Gro.drewN))) (by omega)).mono ?_
  rintro e w1 ⟨A4_0, c4_0, rfl, hF4, os4, d4, rfl⟩
  go_wp2_with (fail)
  refine (encS_i (x := x) (rdSample hF4.read).1 (rdSample hF4.read).2.1 (rdSample hF4.read).2.2.1 (rdSample hF4.read).2.2.2.1 (Ty.up _ (rdSample hF4.read).2.2.2.2 (by repeat (first | with_reducible exact Gro.refl _ | with_reducible exact Gro.refl_drew _ _ _ | with_reducible exact Gro.refl_drewN _ _ _ _ | assumption | with_reducible apply Gro.more | with_reducible apply Gro.alloc | with_reducible apply Gro.drew | with_reducible apply Gro.drewN))) (by omega)).mono ?_
  rw [hp.out]
  rintro e w1 ⟨rfl, os5, d5, rfl⟩
  go_wp2_with (fail)
  go_region_held3 (fun w' => w'.cell? ⟨w.heap.size + 1 + os0.size + os2.size + os3.size + os4.size, 0, none⟩ = some (.int .i64 x.Thread) ∧ w'.cell? ⟨w.heap.size + 1 + os0.size + os2.size + os3.size + os4.size, 1, none⟩ = some (.int .i64 x.View.Pc) ∧ w'.cell? ⟨w.heap.size + 1 + os0.size + os2.size + os3.size + os4.size, 2, none⟩ = some (.int .i64 x.View.Sp) ∧ w'.cell? ⟨w.heap.size + 1 + os0.size + os2.size + os3.size + os4.size, 3, none⟩ = some (.int .i64 x.View.Fp) ∧ w'.cell? ⟨w.heap.size + 1 + os0.size + os2.size + os3.size + os4.size, 4, none⟩ = some (.slice A4_0 x.View.Words.length c4_0) ∧ w'.cell? ⟨w.heap.size, 0, none⟩ = some (.int .i64 x.Thread) ∧ w'.cell? ⟨w.heap.size, 1, none⟩ = some (.int .i64 x.View.Pc) ∧ w'.cell? ⟨w.heap.size, 2, none⟩ = some (.int .i64 x.View.Sp) ∧ w'.cell? ⟨w.heap.size, 3, none⟩ = some (.int .i64 x.View.Fp) ∧ w'.cell? ⟨w.heap.size, 4, none⟩ = some (.slice A0 x.View.Words.length c0)) (simp [go_sem]) (first
      | (go_at_call 10; refine (toSample_l (x := x) p_x0 p_x1 p_x2 p_x3 (Ty.up _ p_x4 (by repeat (first | with_reducible exact Gro.refl _ | with_reducible exact Gro.refl_drew _ _ _ | with_reducible exact Gro.refl_drewN _ _ _ _ | assumption | with_reducible apply Gro.more | with_reducible apply Gro.alloc | with_reducible apply Gro.drew | with_reducible apply Gro.drewN))) (by omega)).mono ?_; rintro e w1 ⟨A6_0, c6_0, rfl, hF6, os6, d6, rfl⟩)
      | (go_at_call 12; refine (eqSample_l (x := x) (y := x) (Ty.up _ (rdSample hF4.read).2.2.2.2 (by repeat (first | with_reducible exact Gro.refl _ | with_reducible exact Gro.refl_drew _ _ _ | with_reducible exact Gro.refl_drewN _ _ _ _ | assumption | with_reducible apply Gro.more | with_reducible apply Gro.alloc | with_reducible apply Gro.drew | with_reducible apply Gro.drewN))) (Ty.up _ (rdSample hF6.read).2.2.2.2 (by repeat (first | with_reducible exact Gro.refl _ | with_reducible exact Gro.refl_drew _ _ _ | with_reducible exact Gro.refl_drewN _ _ _ _ | assumption | with_reducible apply Gro.more | with_reducible apply Gro.alloc | with_reducible apply Gro.drew | with_reducible apply Gro.drewN)))).mono ?_; rintro e w1 ⟨rfl, os7, d7, rfl⟩))
  go_wp2
  go_ret
  exact ⟨rfl, (by repeat (first | with_reducible exact Gro.refl _ | with_reducible exact Gro.refl_drew _ _ _ | with_reducible exact Gro.refl_drewN _ _ _ _ | assumption | with_reducible apply Gro.more | with_reducible apply Gro.alloc | with_reducible apply Gro.drew | with_reducible apply Gro.drewN))⟩

set_option maxRecDepth 100000 in
theorem lifted (os : Os) (started : os.Started) (H : Type) (enc : TypeId × Value → H) :
    ReturnsInHanded {} Try.checked os 3 .any (Rows.fnExactEncodeSampleSpec.pre6 enc Try.prog Try.f3 Rows.fnExactEncodeSampleRow.domain false) (Rows.fnExactEncodeSampleSpec.post enc Try.prog Try.f3 false true false false) := by
  refine returnsInHanded_of_change (C := Try.checked) own started (by kernel_rfl) Try.func3
    (ChangeSpec.witness6 (enc := enc) (C := Try.checked) false ⟨#[], #[.agg #[.int .i64 0, .int .i64 0, .int .i64 0, .int .i64 0, .slice none 0 0]], []⟩ 8 (by kernel_rfl) (by kernel_rfl) (by kernel_rfl) (by kernel_rfl)) ?_
  intro W base args ds gs before hval0 hW hcnd _
  have hval : ∀ (j : Nat) t v, Try.f3.params[j]? = some t → args[j]? = some v → Value.okWide Try.prog W .any base t v := hval0
  have hW' := hW
  obtain ⟨p, q, hA0, hV, rfl, hfz, hnd⟩ := hW
  have hA : DataW.TrodAll enc Try.prog W 0 (fun _ => true) true Try.f3.params.toList args.toList ds p := hA0
  rw [Try.params3] at hA hval
  obtain ⟨v0, vs0, d0, ds0, p0, q0, hargs, rfl, rfl, h0, r0⟩ := trodAll_cons hA
  obtain ⟨rfl, rfl, rfl⟩ := trodAll_nil r0
  obtain rfl : args = #[v0] := by cases args; simp_all
  obtain ⟨rfl, rfl⟩ := trodVars_none hV
  have k0 := h0
  have lt0 : ∀ x ∈ p0, x.block < W.heap.size := by obtain ⟨m, hm⟩ := k0; exact DataW.trod_lt m _ _ _ hm
  obtain ⟨cs0, rfl⟩ := arg_agg Try.underlying26 (hval 0 26 v0 rfl rfl)
  obtain ⟨a0, w0⟩ := arg_open tSample_opens h0
  clear hA0 hval0
  refine (walk W cs0 a0 w0).mono fun e W' ⟨he, hgro⟩ => ?_
  subst he
  have bel := hgro.below
  exact ⟨_, rfl, _, _, _, [], _, [], hW', trodAll_mk1 (shut_bool Try.underlying4 _), (trodAll_cons_mk (Below.trod laidOut (by kernel_rfl) (of_decide_eq_true (by kernel_rfl)) k0 bel lt0) trodAll_mk0), rfl, bel.frame _, fun h => by cases h⟩
theorem over : Rows.fnExactEncodeSampleRow.holds Try.pinned (OpenSpec.ofChange Rows.fnExactEncodeSampleSpec) :=
  OpenClaim.holds_of_wide 3 Try.f3 rfl rfl rfl rfl rfl rfl rfl ⟨rfl, rfl, rfl, rfl, rfl⟩ rfl rfl rfl rfl rfl (by kernel_rfl) Try.func3 (by kernel_rfl)
    (of_decide_eq_true (by kernel_rfl)) (by unfold Func.isWrapper; first | (rw [if_pos (by decide +kernel)]; kernel_rfl) | (rw [if_neg (by decide +kernel)]; exact ⟨rfl, rfl⟩))
    (fun os started H enc _ => lifted os started H enc)
/-- THE STATEMENT -/
theorem proved : Rows.FnExactEncodeSampleSaid := over
#print axioms proved
end Go.Proofs.Ytemeenondbdioaa.fnExactEncodeSample
