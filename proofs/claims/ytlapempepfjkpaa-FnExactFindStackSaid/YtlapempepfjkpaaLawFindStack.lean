/-
  The law FnExactFindStack answers true for every input: the program and the reference compute the same; the arguments stay; the result is of its own memory. No condition.
-/
import Derived.Test.YtlapempepfjkpaaRows
import Derived.Test.YtlapempepfjkpaaOpen
import Derived.Test.YtlapempepfjkpaaStacks3
import Derived.ShutString
import Derived.Deep.RegionHeld3
set_option linter.unusedVariables false
set_option linter.unusedSimpArgs false
namespace Go.Proofs.Ytlapempepfjkpaa.fnExactFindStack
open Go.ChangeShapes Go.WideShapes Go.ChangeAt Go.RowKit
open Go.ChangeMaps (open_string shut_string)
theorem own : ownKnob Try.prog.godebug = none := by kernel_rfl
theorem laidOut : laidOutB Try.prog = true := by kernel_rfl
theorem rdStacks {w : World} {B : Nat} {x : DStacks} {A0 : Option Addr} {c0 : Nat} (h : tStacks.R w B [.slice A0 x.Nodes.length c0] x) : (tNode.sl 104).R w B [.slice A0 x.Nodes.length c0] x.Nodes := by
  obtain ⟨A0', c0', hc, f0⟩ := tStacks_R h
  simp only [List.cons.injEq, Value.slice.injEq, true_and, and_true] at hc
  obtain ⟨rfl, rfl⟩ := hc
  exact f0
set_option maxRecDepth 100000 in
set_option maxHeartbeats 4000000 in
theorem walk (w : World) (cs_t : Array Value) (t : DStacks) (h_t : tStacks.R w w.heap.size cs_t.toList t) (v_l : Value) (l : List DFrame) (h_l : (tFrame.sl 100).R w w.heap.size [v_l] l) :
    Calls Try.prog 8 #[.agg cs_t, v_l] w fun e w' => e = .returned (.bool true) ∧ Gro w w' := by
  obtain ⟨A0, c0, hcs_t, p_t0⟩ := tStacks_R h_t
  obtain rfl := Array.toList_inj.1 (show cs_t.toList = (#[.slice A0 t.Nodes.length c0] : Array Value).toList from hcs_t)
  clear h_t hcs_t
  obtain ⟨A1, c1, rfl, hlc_l, hcm_l⟩ := sl_at h_l
  obtain ⟨n0, hn0⟩ : ∃ n, szStacks t = n := ⟨_, rfl⟩
  obtain ⟨n1, hn1⟩ : ∃ n, szL szFrame l = n := ⟨_, rfl⟩
  by_cases hz0 : (n0 : Int) ≤ 1048576
  case neg =>
    have e0 : szRes (1048576) (szStacks t) = -1 := by rw [hn0]; exact if_neg (by omega)
    clear hn0 hn1
    go_enter Try.func8, Try.ntmps8
    go_wp2_with (fail)
    refine (szStacks_l (x := t) (Ty.up _ p_t0 (by repeat (first | with_reducible exact Gro.refl _ | with_reducible exact Gro.refl_drew _ _ _ | with_reducible exact Gro.refl_drewN _ _ _ _ | assumption | with_reducible apply Gro.more | with_reducible apply Gro.alloc | with_reducible apply Gro.drew | with_reducible apply Gro.drewN))) (by omega) (by omega)).mono ?_
    rintro e w1 ⟨rfl, os0, d0, rfl⟩
    go_wp2
    go_ret
    exact ⟨rfl, (by repeat (first | with_reducible exact Gro.refl _ | with_reducible exact Gro.refl_drew _ _ _ | with_reducible exact Gro.refl_drewN _ _ _ _ | assumption | with_reducible apply Gro.more | with_reducible apply Gro.alloc | with_reducible apply Gro.drew | with_reducible apply Gro.drewN))⟩
  by_cases hz1 : (n0 : Int) + (n1 : Int) ≤ 1048576
  case neg =>
    have e0 : szRes (1048576) (szStacks t) = 1048576 - (n0 : Int) := by rw [hn0]; exact if_pos (by omega)
    have e1 : szRes (1048576 - (n0 : Int)) (szL szFrame l) = -1 := by rw [hn1]; exact if_neg (by omega)
    clear hn0 hn1
    go_enter Try.func8, Try.ntmps8
    go_wp2_with (fail)
    refine (szStacks_l (x := t) (Ty.up _ p_t0 (by repeat (first | with_reducible exact Gro.refl _ | with_reducible exact Gro.refl_drew _ _ _ | with_reducible exact Gro.refl_drewN _ _ _ _ | assumption | with_reducible apply Gro.more | with_reducible apply Gro.alloc | with_reducible apply Gro.drew | with_reducible apply Gro.drewN))) (by omega) (by omega)).mono ?_
    rintro e w1 ⟨rfl, os0, d0, rfl⟩
    go_wp2_with (fail)
    refine (szFrameS_l (xs := l) (Ty.up _ h_l (by repeat (first | with_reducible exact Gro.refl _ | with_reducible exact Gro.refl_drew _ _ _ | with_reducible exact Gro.refl_drewN _ _ _ _ | assumption | with_reducible apply Gro.more | with_reducible apply Gro.alloc | with_reducible apply Gro.drew | with_reducible apply Gro.drewN))) (by omega) (by omega)).mono ?_
    rintro e w1 ⟨rfl, os1, d1, rfl⟩
    go_wp2
    go_ret
    exact ⟨rfl, (by repeat (first | with_reducible exact Gro.refl _ | with_reducible exact Gro.refl_drew _ _ _ | with_reducible exact Gro.refl_drewN _ _ _ _ | assumption | with_reducible apply Gro.more | with_reducible apply Gro.alloc | with_reducible apply Gro.drew | with_reducible apply Gro.drewN))⟩
  have e0 : szRes (1048576) (szStacks t) = 1048576 - (n0 : Int) := by rw [hn0]; exact if_pos (by omega)
  have e1 : szRes (1048576 - (n0 : Int)) (szL szFrame l) = 1048576 - (n0 : Int) - (n1 : Int) := by rw [hn1]; exact if_pos (by omega)
  have hl_t0 : t.Nodes.length ≤ 1048576 := by have h := hn0; unfold szStacks at h; have := szL_len szNode t.Nodes; omega
  have hs_t : szStacks t ≤ 1048576 := by omega
  have hl_l : l.length ≤ 1048576 := by have h := hn1; have := szL_len szFrame l; omega
  have hs_l : szL szFrame l ≤ 1048576 := by omega
  have HN0 := Lib.hid hn0
  have HN1 := Lib.hid hn1
  clear hn0 hn1
  obtain ⟨p, hp⟩ : ∃ p, Hid (findStack t l = p) := ⟨_, Lib.hid rfl⟩
  go_enter Try.func8, Try.ntmps8
  go_wp2_with (fail)
  refine (szStacks_l (x := t) (Ty.up _ p_t0 (by repeat (first | with_reducible exact Gro.refl _ | with_reducible exact Gro.refl_drew _ _ _ | with_reducible exact Gro.refl_drewN _ _ _ _ | assumption | with_reducible apply Gro.more | with_reducible apply Gro.alloc | with_reducible apply Gro.drew | with_reducible apply Gro.drewN))) (by omega) (by omega)).mono ?_
  rintro e w1 ⟨rfl, os0, d0, rfl⟩
  go_wp2_with (fail)
  refine (szFrameS_l (xs := l) (Ty.up _ h_l (by repeat (first | with_reducible exact Gro.refl _ | with_reducible exact Gro.refl_drew _ _ _ | with_reducible exact Gro.refl_drewN _ _ _ _ | assumption | with_reducible apply Gro.more | with_reducible apply Gro.alloc | with_reducible apply Gro.drew | with_reducible apply Gro.drewN))) (by omega) (by omega)).mono ?_
  rintro e w1 ⟨rfl, os1, d1, rfl⟩
  go_wp2_with (fail)
  refine (toStacks_l (x := t) (Ty.up _ p_t0 (by repeat (first | with_reducible exact Gro.refl _ | with_reducible exact Gro.refl_drew _ _ _ | with_reducible exact Gro.refl_drewN _ _ _ _ | assumption | with_reducible apply Gro.more | with_reducible apply Gro.alloc | with_reducible apply Gro.drew | with_reducible apply Gro.drewN))) (by omega)).mono ?_
  rintro e w1 ⟨A3_0, c3_0, rfl, hF3, os3, d3, rfl⟩
  go_wp2_with (fail)
  refine (toFrameS_l (xs := l) (Ty.up _ h_l (by repeat (first | with_reducible exact Gro.refl _ | with_reducible exact Gro.refl_drew _ _ _ | with_reducible exact Gro.refl_drewN _ _ _ _ | assumption | with_reducible apply Gro.more | with_reducible apply Gro.alloc | with_reducible apply Gro.drew | with_reducible apply Gro.drewN))) (by omega)).mono ?_
  rintro e w1 ⟨A4_0, c4_0, rfl, hF4, os4, d4, rfl⟩
  go_wp2_with (fail)
  refine (findStack_s (t := t) (l := l) (Ty.up _ (rdStacks hF3.read) (by repeat (first | with_reducible exact Gro.refl _ | with_reducible exact Gro.refl_drew _ _ _ | with_reducible exact Gro.refl_drewN _ _ _ _ | assumption | with_reducible apply Gro.more | with_reducible apply Gro.alloc | with_reducible apply Gro.drew | with_reducible apply Gro.drewN))) (Ty.up _ hF4.read (by repeat (first | with_reducible exact Gro.refl _ | with_reducible exact Gro.refl_drew _ _ _ | with_reducible exact Gro.refl_drewN _ _ _ _ | assumption | with_reducible apply Gro.more | with_reducible apply Gro.alloc | with_reducible apply Gro.drew | with_reducible apply Gro.drewN))) (by omega)).mono ?_
  rw [hp.out]
  rintro e w1 ⟨rfl, os5, d5, rfl⟩
  go_wp2_with (fail)
  refine (toStacks_l (x := t) (Ty.up _ p_t0 (by repeat (first | with_reducible exact Gro.refl _ | with_reducible exact Gro.refl_drew _ _ _ | with_reducible exact Gro.refl_drewN _ _ _ _ | assumption | with_reducible apply Gro.more | with_reducible apply Gro.alloc | with_reducible apply Gro.drew | with_reducible apply Gro.drewN))) (by omega)).mono ?_
  rintro e w1 ⟨A6_0, c6_0, rfl, hF6, os6, d6, rfl⟩
  go_wp2_with (fail)
  refine (toFrameS_l (xs := l) (Ty.up _ h_l (by repeat (first | with_reducible exact Gro.refl _ | with_reducible exact Gro.refl_drew _ _ _ | with_reducible exact Gro.refl_drewN _ _ _ _ | assumption | with_reducible apply Gro.more | with_reducible apply Gro.alloc | with_reducible apply Gro.drew | with_reducible apply Gro.drewN))) (by omega)).mono ?_
  rintro e w1 ⟨A7_0, c7_0, rfl, hF7, os7, d7, rfl⟩
  go_wp2_with (fail)
  refine (findStack_i (t := t) (l := l) (Ty.up _ (rdStacks hF6.read) (by repeat (first | with_reducible exact Gro.refl _ | with_reducible exact Gro.refl_drew _ _ _ | with_reducible exact Gro.refl_drewN _ _ _ _ | assumption | with_reducible apply Gro.more | with_reducible apply Gro.alloc | with_reducible apply Gro.drew | with_reducible apply Gro.drewN))) (Ty.up _ hF7.read (by repeat (first | with_reducible exact Gro.refl _ | with_reducible exact Gro.refl_drew _ _ _ | with_reducible exact Gro.refl_drewN _ _ _ _ | assumption | with_reducible apply Gro.more | with_reducible apply Gro.alloc | with_reducible apply Gro.drew | with_reducible apply Gro.drewN))) (by omega)).mono ?_
  rw [hp.out]
  rintro e w1 ⟨rfl, os8, d8, rfl⟩
  go_wp2_with (fail)
  go_region_held3 (fun w' => w'.cell? ⟨w.heap.size + 1 + os0.size + os1.size + os3.size + os4.size + os5.size + os6.size, 0, none⟩ = some (.slice A6_0 t.Nodes.length c6_0) ∧ w'.cell? ⟨w.heap.size, 0, none⟩ = some (.slice A0 t.Nodes.length c0)) (simp [go_sem]) (first
      | (go_at_call 40; refine (toStacks_l (x := t) (Ty.up _ p_t0 (by repeat (first | with_reducible exact Gro.refl _ | with_reducible exact Gro.refl_drew _ _ _ | with_reducible exact Gro.refl_drewN _ _ _ _ | assumption | with_reducible apply Gro.more | with_reducible apply Gro.alloc | with_reducible apply Gro.drew | with_reducible apply Gro.drewN))) (by omega)).mono ?_; rintro e w1 ⟨A9_0, c9_0, rfl, hF9, os9, d9, rfl⟩)
      | (go_at_call 41; refine (eqStacks_l (x := t) (y := t) (Ty.up _ (rdStacks hF6.read) (by repeat (first | with_reducible exact Gro.refl _ | with_reducible exact Gro.refl_drew _ _ _ | with_reducible exact Gro.refl_drewN _ _ _ _ | assumption | with_reducible apply Gro.more | with_reducible apply Gro.alloc | with_reducible apply Gro.drew | with_reducible apply Gro.drewN))) (Ty.up _ (rdStacks hF9.read) (by repeat (first | with_reducible exact Gro.refl _ | with_reducible exact Gro.refl_drew _ _ _ | with_reducible exact Gro.refl_drewN _ _ _ _ | assumption | with_reducible apply Gro.more | with_reducible apply Gro.alloc | with_reducible apply Gro.drew | with_reducible apply Gro.drewN)))).mono ?_; rintro e w1 ⟨rfl, os10, d10, rfl⟩))
  go_wp2_with (fail)
  refine (toFrameS_l (xs := l) (Ty.up _ h_l (by repeat (first | with_reducible exact Gro.refl _ | with_reducible exact Gro.refl_drew _ _ _ | with_reducible exact Gro.refl_drewN _ _ _ _ | assumption | with_reducible apply Gro.more | with_reducible apply Gro.alloc | with_reducible apply Gro.drew | with_reducible apply Gro.drewN))) (by omega)).mono ?_
  rintro e w1 ⟨A11_0, c11_0, rfl, hF11, os11, d11, rfl⟩
  go_wp2_with (fail)
  refine (eqFrameS_l (xs := l) (ys := l) (Ty.up _ hF7.read (by repeat (first | with_reducible exact Gro.refl _ | with_reducible exact Gro.refl_drew _ _ _ | with_reducible exact Gro.refl_drewN _ _ _ _ | assumption | with_reducible apply Gro.more | with_reducible apply Gro.alloc | with_reducible apply Gro.drew | with_reducible apply Gro.drewN))) (Ty.up _ hF11.read (by repeat (first | with_reducible exact Gro.refl _ | with_reducible exact Gro.refl_drew _ _ _ | with_reducible exact Gro.refl_drewN _ _ _ _ | assumption | with_reducible apply Gro.more | with_reducible apply Gro.alloc | with_reducible apply Gro.drew | with_reducible apply Gro.drewN)))).mono ?_
  rintro e w1 ⟨rfl, os12, d12, rfl⟩
  go_wp2
  go_ret
  exact ⟨rfl, (by repeat (first | with_reducible exact Gro.refl _ | with_reducible exact Gro.refl_drew _ _ _ | with_reducible exact Gro.refl_drewN _ _ _ _ | assumption | with_reducible apply Gro.more | with_reducible apply Gro.alloc | with_reducible apply Gro.drew | with_reducible apply Gro.drewN))⟩

set_option maxRecDepth 100000 in
theorem lifted (os : Os) (started : os.Started) (H : Type) (enc : TypeId × Value → H) :
    ReturnsInHanded {} Try.checked os 8 .any (Rows.fnExactFindStackSpec.pre6 enc Try.prog Try.f8 Rows.fnExactFindStackRow.domain false) (Rows.fnExactFindStackSpec.post enc Try.prog Try.f8 false true false false) := by
  refine returnsInHanded_of_change (C := Try.checked) own started (by kernel_rfl) Try.func8
    (ChangeSpec.witness6 (enc := enc) (C := Try.checked) false ⟨#[], #[.agg #[.slice none 0 0], .slice none 0 0], []⟩ 8 (by kernel_rfl) (by kernel_rfl) (by kernel_rfl) (by kernel_rfl)) ?_
  intro W base args ds gs before hval0 hW hcnd _
  have hval : ∀ (j : Nat) t v, Try.f8.params[j]? = some t → args[j]? = some v → Value.okWide Try.prog W .any base t v := hval0
  have hW' := hW
  obtain ⟨p, q, hA0, hV, rfl, hfz, hnd⟩ := hW
  have hA : DataW.TrodAll enc Try.prog W 0 (fun _ => true) true Try.f8.params.toList args.toList ds p := hA0
  rw [Try.params8] at hA hval
  obtain ⟨v0, vs0, d0, ds0, p0, q0, hargs, rfl, rfl, h0, r0⟩ := trodAll_cons hA
  obtain ⟨v1, vs1, d1, ds1, p1, q1, rfl, rfl, rfl, h1, r1⟩ := trodAll_cons r0
  obtain ⟨rfl, rfl, rfl⟩ := trodAll_nil r1
  obtain rfl : args = #[v0, v1] := by cases args; simp_all
  obtain ⟨rfl, rfl⟩ := trodVars_none hV
  have k0 := h0
  have lt0 : ∀ x ∈ p0, x.block < W.heap.size := by obtain ⟨m, hm⟩ := k0; exact DataW.trod_lt m _ _ _ hm
  obtain ⟨cs0, rfl⟩ := arg_agg Try.underlying62 (hval 0 62 v0 rfl rfl)
  obtain ⟨a0, w0⟩ := arg_open tStacks_opens h0
  have k1 := h1
  have lt1 : ∀ x ∈ p1, x.block < W.heap.size := by obtain ⟨m, hm⟩ := k1; exact DataW.trod_lt m _ _ _ hm
  obtain ⟨a1, w1⟩ := arg_open (opens_sl (e' := 100) Try.underlying68 (by kernel_rfl) (by decide) tFrame_opens) h1
  rw [arg_slice Try.underlying68 (hval 1 68 v1 rfl rfl)] at w1
  clear hA0 hval0
  refine (walk W cs0 a0 w0 v1 a1 w1).mono fun e W' ⟨he, hgro⟩ => ?_
  subst he
  have bel := hgro.below
  exact ⟨_, rfl, _, _, _, [], _, [], hW', trodAll_mk1 (shut_bool Try.underlying4 _), (trodAll_cons_mk (Below.trod laidOut (by kernel_rfl) (of_decide_eq_true (by kernel_rfl)) k0 bel lt0) (trodAll_cons_mk (Below.trod laidOut (by kernel_rfl) (of_decide_eq_true (by kernel_rfl)) k1 bel lt1) trodAll_mk0)), rfl, bel.frame _, fun h => by cases h⟩
theorem over : Rows.fnExactFindStackRow.holds Try.pinned (OpenSpec.ofChange Rows.fnExactFindStackSpec) :=
  OpenClaim.holds_of_wide 8 Try.f8 rfl rfl rfl rfl rfl rfl rfl ⟨rfl, rfl, rfl, rfl, rfl⟩ rfl rfl rfl rfl rfl (by kernel_rfl) Try.func8 (by kernel_rfl)
    (of_decide_eq_true (by kernel_rfl)) (by unfold Func.isWrapper; first | (rw [if_pos (by decide +kernel)]; kernel_rfl) | (rw [if_neg (by decide +kernel)]; exact ⟨rfl, rfl⟩))
    (fun os started H enc _ => lifted os started H enc)
/-- THE STATEMENT -/
theorem proved : Rows.FnExactFindStackSaid := over
#print axioms proved
end Go.Proofs.Ytlapempepfjkpaa.fnExactFindStack
