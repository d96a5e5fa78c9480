/-
  The law FnTimers answers true for every input: a timer that has been drawn fires after every period, or between the period and the period plus the spread; the input stays. No condition.
-/
import Derived.Test.YtnapkbdnpjgnmaaRows
import Derived.Test.YtnapkbdnpjgnmaaOpen
import Derived.Test.YtnapkbdnpjgnmaaLawBase
import Derived.Test.YtnapkbdnpjgnmaaDraw3
import Derived.ShutString
import Derived.Deep.RegionHeld3
import Derived.BigQuiet
set_option linter.unusedVariables false
set_option linter.unusedSimpArgs false
namespace Go.Proofs.Ytnapkbdnpjgnmaa.fnTimers
open Go.ChangeShapes Go.WideShapes Go.ChangeAt Go.RowKit
open Go.ChangeMaps (open_string shut_string)
theorem own : ownKnob Try.prog.godebug = none := by kernel_rfl
theorem laidOut : laidOutB Try.prog = true := by kernel_rfl
set_option maxRecDepth 100000 in
set_option maxHeartbeats 4000000 in
theorem walk (w : World) (v : Value) (xs : List UInt8) (hx : (byteT.sl 5).R w w.heap.size [v] xs) :
    Calls Try.prog 4 #[v] w fun e w' => e = .returned (.bool true) ∧ Gro w w' := by
  obtain ⟨A, c, rfl, hxl, hcm⟩ := sl_at hx
  by_cases hb : xs.length ≤ 1048576
  case neg =>
    have hb2 := Lib.hid (show decide (1048576 < (xs.length : Int)) = true from decide_eq_true (by omega))
    go_enter Try.func4, Try.ntmps4
    go_wp2_with (go_at_call 6; refine (big_l _ _ _ _).mono ?_; rw [hb2.out]; rintro e w1 ⟨rfl, os1, d1, rfl⟩)
    go_ret
    exact ⟨rfl, (by repeat (first | with_reducible exact Gro.refl _ | with_reducible exact Gro.refl_drew _ _ _ | with_reducible exact Gro.refl_drewN _ _ _ _ | assumption | with_reducible apply Gro.more | with_reducible apply Gro.alloc | with_reducible apply Gro.drew | with_reducible apply Gro.drewN))⟩
  have hb2 := Lib.hid (show decide (1048576 < (xs.length : Int)) = false from decide_eq_false (by omega))
  go_enter Try.func4, Try.ntmps4
  go_wp2_with (go_at_call 6; refine (big_l _ _ _ _).mono ?_; rw [hb2.out]; rintro e w1 ⟨rfl, os1, d1, rfl⟩)
  refine (drawTimer_s (Ty.up _ hx (by repeat (first | with_reducible exact Gro.refl _ | with_reducible exact Gro.refl_drew _ _ _ | with_reducible exact Gro.refl_drewN _ _ _ _ | assumption | with_reducible apply Gro.more | with_reducible apply Gro.alloc | with_reducible apply Gro.drew | with_reducible apply Gro.drewN))) (by omega)).mono ?_
  rintro e W2 ⟨t, rfl, hto, hG2⟩
  have hG2' : Gro w W2 := (Gro.more (Gro.refl w) os1 d1).trans hG2
  obtain ⟨os2, d2, rfl⟩ := hG2'
  clear hG2
  have hfit := timerOk_fit hto
  obtain ⟨p1, p2, s1, s2, l1, l2, st1, st2⟩ := hfit
  obtain ⟨l, hl⟩ : ∃ l, fire t 200 = l := ⟨_, rfl⟩
  have HL := Lib.hid hl
  have he : l = (fireL t 200).1 := by rw [← hl]; exact fire_eq t 200 (by decide)
  have HG := Lib.hid (show gaps t l from by rw [he]; exact (fire_inv hto 200).2.2.2.1)
  have HE := Lib.hid (show (l = []) ↔ (200 : Int) < t.Left from by rw [he]; exact fire_some hto 200)
  have HB := Lib.hid (show ∀ y ∈ l, 0 ≤ y ∧ y < 200 from by rw [he]; exact fun y hy => fire_bd t 200 y hy)
  have hll : l.length ≤ 3000 := by rw [← hl]; exact fire_len _ _
  have HTO := Lib.hid hto
  clear hl he hto
  go_wp2_with (fail)
  refine (fire_i t 200 _).mono ?_
  rw [HL.out]
  rintro e W3 ⟨A3, c3, rfl, hF3, os3, d3, rfl⟩
  go_wp2_with (fail)
  go_loopw [5, 6] (fun a b wr => ∃ (j : Nat) (last : Int), a = .int .i64 last ∧ b = .int .i64 j ∧ j ≤ l.length ∧ Hid (last = if j = 0 then t.Left - 1 else (l[j - 1]?).getD 0) ∧ Hid (Gro (gro ((gro w os2 d2).alloc (.cells #[.int .i64 t.Period, .int .i64 t.Spread, .int .i64 t.Left, .int .i64 t.State] 38)) os3 d3) wr)) (fun _ b _ => l.length - (intOf b).toNat)
  case atStart => exact ⟨0, t.Left - 1, rfl, rfl, Nat.zero_le _, Lib.hid rfl, Gro.refl _⟩
  case round =>
    obtain ⟨j, last, rfl, rfl, hj, hlast, hG⟩ := hrel
    obtain ⟨os, d, rfl⟩ := hG.out
    clear hG
    by_cases hlt : j < l.length
    · obtain ⟨g, off, x, ec, rfl, hgb, hxk, hR, hcell⟩ := elem_at hF3.read hlt
      obtain ⟨rfl, _⟩ := hR
      have hcx := gro_keeps (hcell 0 _ rfl) os d
      simp only [show intT.size = 1 from rfl, Nat.mul_one, Nat.add_zero] at hcx
      have hxb := HB.out x (List.mem_of_getElem? hxk)
      obtain ⟨hx0, hx1⟩ := hxb
      have HXK := Lib.hid hxk
      clear hcell hxk
      by_cases hj0 : j = 0
      · subst hj0
        obtain rfl : last = t.Left - 1 := hlast.out
        have hxe : x = t.Left - 1 := ((HG.out 0 x HXK.out).1) rfl
        subst hxe
        simp only [Nat.add_zero] at hcx
        go_wp2_with (fail)
        go_quiet (fail)
        go_wp2_with (fail)
        go_roundw
        case rel => exact ⟨1, t.Left - 1, rfl, by go_num, by omega, Lib.hid (by rw [if_neg (by decide)]; rw [HXK.out]; rfl), Lib.hid (by repeat (first | with_reducible exact Gro.refl _ | with_reducible exact Gro.refl_drew _ _ _ | with_reducible exact Gro.refl_drewN _ _ _ _ | assumption | with_reducible apply Gro.more | with_reducible apply Gro.alloc | with_reducible apply Gro.drew | with_reducible apply Gro.drewN))⟩
        case measure => simp [intOf]; omega
      · have hj1 : 0 < j := by omega
        have hj2 : (0 : Int) < (j : Int) := by omega
        have hj3 : ((j : Int) == 0) = false := by simp; omega
        obtain ⟨y, hy⟩ : ∃ y, l[j - 1]? = some y := ⟨_, List.getElem?_eq_getElem (by omega)⟩
        have hle : last = y := by have := hlast.out; rw [if_neg hj0, hy] at this; exact this
        subst hle
        have hyb := HB.out last (List.mem_of_getElem? hy)
        have hgp := (HG.out j x HXK.out).2 last (by omega) hy
        obtain ⟨hg1, hg2⟩ := hgp
        obtain ⟨M, hM⟩ : ∃ M, max 0 (t.Spread - 1) = M := ⟨_, rfl⟩
        have hM1 : 0 ≤ M ∧ M ≤ 100 := by omega
        rw [hM] at hg2
        have HY := Lib.hid hy
        clear hy
        have q1 : IntKind.i64.wrap (x - last) = x - last := IntWalk.i64_in _ ⟨by omega, by omega⟩
        have q2 : IntKind.i64.wrap (t.Spread - 1) = t.Spread - 1 := IntWalk.i64_in _ ⟨by omega, by omega⟩
        have q3 : IntKind.i64.wrap (t.Period + M) = t.Period + M := IntWalk.i64_in _ ⟨by omega, by omega⟩
        have hn1 : ¬ x - last < t.Period := by omega
        have hd1 : decide (x - last < t.Period) = false := decide_eq_false hn1
        by_cases hsp : 0 < t.Spread - 1
        · have hM2 : M = t.Spread - 1 := by omega
          subst hM2
          have hn2 : ¬ t.Period + (t.Spread - 1) < x - last := by omega
          have hd2 : decide (t.Period + (t.Spread - 1) < x - last) = false := decide_eq_false hn2
          go_wp2_with (fail)
          go_quiet (fail)
          go_wp2_with (fail)
          go_roundw
          case rel => exact ⟨j + 1, x, rfl, by go_num, by omega, Lib.hid (by rw [if_neg (by omega), Nat.add_sub_cancel, HXK.out]; rfl), Lib.hid (by repeat (first | with_reducible exact Gro.refl _ | with_reducible exact Gro.refl_drew _ _ _ | with_reducible exact Gro.refl_drewN _ _ _ _ | assumption | with_reducible apply Gro.more | with_reducible apply Gro.alloc | with_reducible apply Gro.drew | with_reducible apply Gro.drewN))⟩
          case measure => simp [intOf]; omega
        · have hM2 : M = 0 := by omega
          subst hM2
          have hsp2 : t.Spread - 1 ≤ 0 := by omega
          have q4 : IntKind.i64.wrap (t.Period + 0) = t.Period := by rw [q3]; omega
          have hn2 : ¬ t.Period < x - last := by omega
          have hd2 : decide (t.Period < x - last) = false := decide_eq_false hn2
          go_wp2_with (fail)
          go_quiet (fail)
          go_wp2_with (fail)
          go_roundw
          case rel => exact ⟨j + 1, x, rfl, by go_num, by omega, Lib.hid (by rw [if_neg (by omega), Nat.add_sub_cancel, HXK.out]; rfl), Lib.hid (by repeat (first | with_reducible exact Gro.refl _ | with_reducible exact Gro.refl_drew _ _ _ | with_reducible exact Gro.refl_drewN _ _ _ _ | assumption | with_reducible apply Gro.more | with_reducible apply Gro.alloc | with_reducible apply Gro.drew | with_reducible apply Gro.drewN))⟩
          case measure => simp [intOf]; omega
    · obtain rfl : j = l.length := by omega
      obtain ⟨u, f, hu⟩ : ∃ u f, tick t = (u, f) := ⟨_, _, rfl⟩
      have HU := Lib.hid hu
      have HK := Lib.hid (show timerOk u = true from by have := (tick_keeps HTO.out).1; rw [hu] at this; exact this)
      have HF := Lib.hid (show f = decide (t.Left = 1) from by
        have h1 := congrArg Prod.snd hu
        simp only at h1
        rw [← h1]
        by_cases hl1 : t.Left = 1
        · rw [(tick_fires HTO.out hl1).1, decide_eq_true hl1]
        · rw [tick_left HTO.out (by omega), decide_eq_false hl1])
      clear hu
      obtain ⟨S, hS⟩ : ∃ S, nextSt t.State = S := ⟨_, rfl⟩
      have hSb := nextSt_bd t.State
      rw [hS] at hSb
      have HS := Lib.hid hS
      have hnok : timerOk ⟨t.Period, t.Spread, t.Period, S⟩ = true := timerOk_mk ⟨p1, p2, s1, s2, p1, by simp only; omega, by simp only; omega, by simp only; omega⟩
      have HN := Lib.hid (show newTimer t.Period t.Spread S = (⟨t.Period, t.Spread, t.Period, S⟩, true) from by unfold newTimer; rw [if_pos hnok])
      clear hS hnok
      have hfin : (decide ((0 : Int) < (l.length : Int)) == decide (t.Left ≤ 200)) = true := by
        have h1 := HE.out
        by_cases h2 : l = []
        · have := h1.1 h2
          rw [decide_eq_false (by rw [h2]; simp), decide_eq_false (by omega)]
          rfl
        · have h3 : ¬ (200 : Int) < t.Left := fun h => h2 (h1.2 h)
          have h4 : l.length ≠ 0 := fun h => h2 (List.length_eq_zero_iff.1 h)
          rw [decide_eq_true (by omega), decide_eq_true (by omega)]
          rfl
      have HFIN := Lib.hid hfin
      clear hfin
      go_wp2_with (fail)
      refine (tick_i t _).mono ?_
      rw [HU.out]
      rintro e W7 ⟨rfl, os7, d7, rfl⟩
      go_wp2_with (fail)
      go_region_held3 (fun w' => w'.cell? ⟨w.heap.size + os2.size, 0, none⟩ = some (.int .i64 t.Period) ∧ w'.cell? ⟨w.heap.size + os2.size, 1, none⟩ = some (.int .i64 t.Spread) ∧ w'.cell? ⟨w.heap.size + os2.size, 3, none⟩ = some (.int .i64 t.State)) ((repeat' apply And.intro) <;> (first | ((repeat (first | assumption | with_reducible refine gro_keeps ?_ _ _ | with_reducible refine alloc_keeps ?_ _ | with_reducible refine drew_keeps ?_)); done) | (simp [go_sem]; done))) (first
        | (go_at_call 20; (with_reducible refine (next_i _ _).mono ?_); rw [HS.out]; rintro e W8 ⟨rfl, rfl⟩)
        | (go_at_call 19; (with_reducible refine (newTimer_i _ _ _ _).mono ?_); rw [HN.out]; rintro e W9 ⟨rfl, os9, d9, rfl⟩))
      all_goals go_wp2_with (go_at_call 21; (with_reducible refine (timerOk_i u _).mono ?_); rw [HK.out]; rintro e W9 ⟨rfl, os10, d10, rfl⟩)
      all_goals go_ret
      all_goals refine ⟨ret_bool ?_, (by repeat (first | with_reducible exact Gro.refl _ | with_reducible exact Gro.refl_drew _ _ _ | with_reducible exact Gro.refl_drewN _ _ _ _ | assumption | with_reducible apply Gro.more | with_reducible apply Gro.alloc | with_reducible apply Gro.drew | with_reducible apply Gro.drewN))⟩
      all_goals exact (by simpa using HFIN.out)

set_option maxRecDepth 100000 in
theorem lifted (os : Os) (started : os.Started) (H : Type) (enc : TypeId × Value → H) :
    ReturnsInHanded {} Try.checked os 4 .any (Rows.fnTimersSpec.pre6 enc Try.prog Try.f4 Rows.fnTimersRow.domain false) (Rows.fnTimersSpec.post enc Try.prog Try.f4 false true false false) := by
  refine returnsInHanded_of_change (C := Try.checked) own started (by kernel_rfl) Try.func4
    (ChangeSpec.witness6 (enc := enc) (C := Try.checked) false ⟨#[], #[.slice none 0 0], []⟩ 8 (by kernel_rfl) (by kernel_rfl) (by kernel_rfl) (by kernel_rfl)) ?_
  intro W base args ds gs before hval0 hW hcnd _
  have hval : ∀ (j : Nat) t v, Try.f4.params[j]? = some t → args[j]? = some v → Value.okWide Try.prog W .any base t v := hval0
  have hW' := hW
  obtain ⟨p, q, hA0, hV, rfl, hfz, hnd⟩ := hW
  have hA : DataW.TrodAll enc Try.prog W 0 (fun _ => true) true Try.f4.params.toList args.toList ds p := hA0
  rw [Try.params4] at hA hval
  obtain ⟨v0, vs0, d0, ds0, p0, q0, hargs, rfl, rfl, h0, r0⟩ := trodAll_cons hA
  obtain ⟨rfl, rfl, rfl⟩ := trodAll_nil r0
  obtain rfl : args = #[v0] := by cases args; simp_all
  obtain ⟨rfl, rfl⟩ := trodVars_none hV
  have k0 := h0
  have lt0 : ∀ x ∈ p0, x.block < W.heap.size := by obtain ⟨m, hm⟩ := k0; exact DataW.trod_lt m _ _ _ hm
  obtain ⟨a0, w0⟩ := arg_open (opens_sl (e' := 5) Try.underlying22 (by kernel_rfl) (by decide) (opens_byte Try.underlying5)) h0
  rw [arg_slice Try.underlying22 (hval 0 22 v0 rfl rfl)] at w0
  clear hA0 hval0
  refine (walk W v0 a0 w0).mono fun e W' ⟨he, hgro⟩ => ?_
  subst he
  have bel := hgro.below
  exact ⟨_, rfl, _, _, _, [], _, [], hW', trodAll_mk1 (shut_bool Try.underlying4 _), (trodAll_cons_mk (Below.trod laidOut (by kernel_rfl) (of_decide_eq_true (by kernel_rfl)) k0 bel lt0) trodAll_mk0), rfl, bel.frame _, fun h => by cases h⟩
theorem over : Rows.fnTimersRow.holds Try.pinned (OpenSpec.ofChange Rows.fnTimersSpec) :=
  OpenClaim.holds_of_wide 4 Try.f4 rfl rfl rfl rfl rfl rfl rfl ⟨rfl, rfl, rfl, rfl, rfl⟩ rfl rfl rfl rfl rfl (by kernel_rfl) Try.func4 (by kernel_rfl)
    (of_decide_eq_true (by kernel_rfl)) (by unfold Func.isWrapper; first | (rw [if_pos (by decide +kernel)]; kernel_rfl) | (rw [if_neg (by decide +kernel)]; exact ⟨rfl, rfl⟩))
    (fun os started H enc _ => lifted os started H enc)
/-- THE STATEMENT -/
theorem proved : Rows.FnTimersSaid := over
#print axioms proved
end Go.Proofs.Ytnapkbdnpjgnmaa.fnTimers
