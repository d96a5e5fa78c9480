/-
  LISTS OF STRUCTS, written by a program (genlist.py): Rule: the laws' own toXS, szXS, eqXS, markXS, heldXS.
-/
import Derived.Test.YtbhobjepjaeffaaRowsPut
import Derived.Test.YtbhobjepjaeffaaAppend
import Derived.Test.YtbhobjepjaeffaaFnRule
import Derived.Deep.RegionHeld3
set_option linter.unusedVariables false
set_option linter.unusedSimpArgs false
namespace Go.Proofs.Ytbhobjepjaeffaa
open Go.RowKit
theorem atRule {e : TypeId} {w : World} {B : Nat} {A : Option Addr} {n c : Nat} {xs : List DRule} (h : (tRule.sl e).R w B [.slice A n c] xs) {k : Nat} (hk : k < xs.length) :
    ∃ g off x , A = some ⟨g, off, none⟩ ∧ g < B ∧ xs[k]? = some x ∧ w.cell? ⟨g, off + k * 4, none⟩ = some (.int .i64 x.Start) ∧ w.cell? ⟨g, off + k * 4 + 1, none⟩ = some (.int .i64 x.End) ∧ w.cell? ⟨g, off + k * 4 + 2, none⟩ = some (.bool x.Frame) ∧ w.cell? ⟨g, off + k * 4 + 3, none⟩ = some (.int .i64 x.Depth) ∧ I64 x.Start ∧ I64 x.End ∧ I64 x.Depth := by
  obtain ⟨g, off, x, ec, h1, hB, h2, h3, h4⟩ := elem_at h hk
  obtain ⟨rfl, hf⟩ := tRule_R h3
  exact ⟨g, off, x, h1, hB, h2, h4 0 _ rfl, h4 1 _ rfl, h4 2 _ rfl, h4 3 _ rfl, hf⟩
def mkERule (_ : DRule) (k : Int) : DRule := ⟨k, k + 1, decide ((k + 1 + 1).tmod 3 = 0), k + 1 + 1 + 1⟩
def mkRuleS (xs : List DRule) (k : Int) : List DRule := mkL mkERule (fun _ => 4) xs k
def cntRuleS (xs : List DRule) : Nat := xs.length * 4
theorem mkRuleS_length (xs : List DRule) (k : Int) : (mkRuleS xs k).length = xs.length := mkL_length _ _
theorem toRuleS_info : (Try.prog.info? 185).map (fun i => (i.zero, i.size, i.bytes)) = some (some (.agg #[.int .i64 0, .int .i64 0, .bool false, .int .i64 0]), 4, 32) := by kernel_rfl
theorem flatRule : Flat tRule := flat_via _ (flat_prod flat_int (flat_prod flat_int (flat_prod flat_bool flat_int)))
theorem elRule : Elem Try.prog 97 185 tRule 32 := by
  obtain ⟨i0, hi, hz0, hz1, hz2⟩ := info_parts toRuleS_info
  exact ⟨Try.underlying97, ⟨i0, _, hi, hz0, hz1, hz2, rfl⟩, by decide⟩
theorem szRuleS_l {xs : List DRule} {w : World} {v : Value} {left : Int} (hx : (tRule.sl 185).R w w.heap.size [v] xs) (h0 : 0 ≤ left) (h1 : left ≤ 1099511627776) :
    Calls Try.prog 118 #[v, .int .i64 left] w fun e w' => e = .returned (.int .i64 (szRes left xs.length)) ∧ Gro w w' := by
  obtain ⟨A, c, rfl, h2, h3⟩ := sl_at hx
  clear hx
  by_cases h : (xs.length : Int) ≤ left
  · have HR := Lib.hid (show szRes left xs.length = left - xs.length from if_pos h)
    go_enter Try.func118, Try.ntmps118
    go_wp2
    go_ret
    exact ⟨ret_int HR.out.symm, Gro.refl _⟩
  · have HR := Lib.hid (show szRes left xs.length = -1 from if_neg h)
    go_enter Try.func118, Try.ntmps118
    go_wp2
    go_ret
    exact ⟨ret_int HR.out.symm, Gro.refl _⟩
set_option maxRecDepth 100000 in
theorem toRuleS_l {xs : List DRule} {w : World} {v : Value} (hx : (tRule.sl 185).R w w.heap.size [v] xs) (hn : xs.length ≤ 1099511627776) :
    Calls Try.prog 121 #[v] w (RetSl tRule 185 xs w) := by
  obtain ⟨A, c, rfl, h2, h3⟩ := sl_at hx
  obtain ⟨i0, hi, hz0, hz1, hz2⟩ := info_parts toRuleS_info
  have hn1 : xs.length ≤ 1099511627776 := hn
  have hmk := run_make_rowN (P := Try.prog) 97 185 i0 _ Try.underlying97 hi hz0 .i64 .i64 xs.length xs.length (Nat.le_refl _) (by rw [hz2]; omega) (by omega)
  rw [hz1] at hmk
  clear hz0 hz1 hz2 hi
  go_enter Try.func121, Try.ntmps121
  go_wp2_with (fail)
  go_loopw [4] (fun i wr => ∃ (j : Nat) (cur : Array Value) (os : Array Obj) (d : Nat) (S' : List Nat), j ≤ xs.length ∧ i = .int .i64 j ∧ Hid (wr = gro (w.alloc (.cells cur 185)) os d) ∧ Hid (Rows tRule (gro (w.alloc (.cells cur 185)) os d) (cur.toList.take (j * 4)) (xs.take j) S') ∧ Hid (S'.Nodup) ∧ Hid (∀ b ∈ S', w.heap.size + 1 ≤ b) ∧ Hid (cur.size = xs.length * 4)) (fun i _ => xs.length - (intOf i).toNat)
  case atStart => exact ⟨0, _, _, _, [], Nat.zero_le _, rfl, gro_refl, Lib.hid (by simp [Rows]), Lib.hid List.nodup_nil, Lib.hid (by simp), madeCells_size _ _⟩
  case round =>
    obtain ⟨j, cur, os, d, S', hj, rfl, hw, hr, hN, hL, hsz⟩ := hrel
    have hw' := hw.out
    subst hw'
    clear hw hmk
    by_cases hlt : j < xs.length
    · obtain ⟨g, off, x, rfl, hgb, hxk, hx0, hx1, hx2, hx3, bx0, bx1, bx2⟩ := atRule hx hlt
      have hjs : j * 4 + 3 < cur.size := by have := hsz.out; omega
      obtain ⟨o0, ho0⟩ : ∃ u, cur[j * 4]? = some u := ⟨_, Array.getElem?_eq_getElem (by omega)⟩
      obtain ⟨o1, ho1⟩ : ∃ u, (cur.setIfInBounds (j * 4) (.int .i64 x.Start))[j * 4 + 1]? = some u := ⟨_, Array.getElem?_eq_getElem (by simp only [Array.size_setIfInBounds]; omega)⟩
      obtain ⟨o2, ho2⟩ : ∃ u, ((cur.setIfInBounds (j * 4) (.int .i64 x.Start)).setIfInBounds (j * 4 + 1) (.int .i64 x.End))[j * 4 + 2]? = some u := ⟨_, Array.getElem?_eq_getElem (by simp only [Array.size_setIfInBounds]; omega)⟩
      obtain ⟨o3, ho3⟩ : ∃ u, (((cur.setIfInBounds (j * 4) (.int .i64 x.Start)).setIfInBounds (j * 4 + 1) (.int .i64 x.End)).setIfInBounds (j * 4 + 2) (.bool x.Frame))[j * 4 + 3]? = some u := ⟨_, Array.getElem?_eq_getElem (by simp only [Array.size_setIfInBounds]; omega)⟩
      have HX := Lib.hid hxk
      clear hxk hx
      go_wp2_with (fail)
      refine (toRule_l (x := x) bx0 bx1 bx2).mono ?_
      rintro e w1 ⟨rfl, hF, os1, d1, rfl⟩
      go_wp2
      go_roundw
      case rel =>
        rw [gro_gro] at hF
        obtain ⟨S'', h1, h2, h3, h4⟩ := rows_put (T := tRule) hr.out hN.out hL.out hsz.out hlt HX.out hF (by rw [← gro_gro]; exact Gro.of _ _ _)
        exact ⟨j + 1, _, os ++ os1, d1, S'', by omega, by go_num, gro_gro _ _ _ _, h1, h2, h3, h4⟩
      case measure => simp [intOf]; omega
    · have hje : j = xs.length := by omega
      subst hje
      go_wp2
      go_ret
      exact rows_done hr.out hN.out hL.out hsz.out (Nat.le_refl _) (by omega)
set_option maxRecDepth 100000 in
theorem eqRuleS_l {xs ys : List DRule} {w : World} {v u : Value} (hx : (tRule.sl 185).R w w.heap.size [v] xs) (hy : (tRule.sl 185).R w w.heap.size [u] ys) :
    Calls Try.prog 124 #[v, u] w fun e w' => e = .returned (.bool (decide (xs = ys))) ∧ Gro w w' := by
  obtain ⟨A, c, rfl, h1, h2⟩ := sl_at hx
  obtain ⟨A', c', rfl, k1, k2⟩ := sl_at hy
  by_cases hl : xs.length = ys.length
  · have hne : ((xs.length : Int) != (ys.length : Int)) = false := by simp [hl]
    have HL := Lib.hid hl
    clear hl
    go_enter Try.func124, Try.ntmps124
    go_wp2_with (fail)
    go_loopw [5] (fun i wr => ∃ k : Nat, k ≤ xs.length ∧ i = .int .i64 k ∧ Hid (Gro w wr) ∧ Hid (xs.take k = ys.take k)) (fun i _ => xs.length - (intOf i).toNat)
    case atStart => exact ⟨0, Nat.zero_le _, rfl, Gro.refl _, Lib.hid (by simp)⟩
    case round =>
      obtain ⟨k, hk, rfl, hG, HT⟩ := hrel
      obtain ⟨os, d, rfl⟩ := hG.out
      clear hG
      by_cases hlt : k < xs.length
      · have hlt2 : k < ys.length := by rw [← HL.out]; exact hlt
        obtain ⟨g, off, x, rfl, hgb, hxk, hx0, hx1, hx2, hx3, bx0, bx1, bx2⟩ := atRule hx hlt
        obtain ⟨g', off', y, rfl, hgb', hyk, hy0, hy1, hy2, hy3, by0, by1, by2⟩ := atRule hy hlt2
        have HX := Lib.hid hxk
        have HY := Lib.hid hyk
        clear hxk hyk hx hy
        by_cases hxy : x = y
        · subst hxy
          go_wp2_with (fail)
          go_region_held3 (fun w' => w'.cell? ⟨g, off + k * 4, none⟩ = some (.int .i64 x.Start) ∧ w'.cell? ⟨g, off + k * 4 + 1, none⟩ = some (.int .i64 x.End) ∧ w'.cell? ⟨g, off + k * 4 + 2, none⟩ = some (.bool x.Frame) ∧ w'.cell? ⟨g, off + k * 4 + 3, none⟩ = some (.int .i64 x.Depth) ∧ w'.cell? ⟨g', off' + k * 4, none⟩ = some (.int .i64 x.Start) ∧ w'.cell? ⟨g', off' + k * 4 + 1, none⟩ = some (.int .i64 x.End) ∧ w'.cell? ⟨g', off' + k * 4 + 2, none⟩ = some (.bool x.Frame) ∧ w'.cell? ⟨g', off' + k * 4 + 3, none⟩ = some (.int .i64 x.Depth)) ((repeat' apply And.intro) <;> (first | ((repeat (first | assumption | with_reducible refine gro_keeps ?_ _ _ | with_reducible refine alloc_keeps ?_ _ | with_reducible refine drew_keeps ?_)); done) | (simp [go_sem]; done))) (first
            | (go_at_call 142; refine (eqRule_l (x := x) (y := x)).mono ?_; rintro e w1 ⟨rfl, os1, d1, rfl⟩))
          go_wp2
          go_roundw
          case rel => exact ⟨k + 1, by omega, by go_num, Lib.hid (by repeat (first | with_reducible exact Gro.refl _ | with_reducible exact Gro.refl_drew _ _ _ | with_reducible exact Gro.refl_drewN _ _ _ _ | assumption | with_reducible apply Gro.more | with_reducible apply Gro.alloc | with_reducible apply Gro.drew | with_reducible apply Gro.drewN)), Lib.hid (by rw [take_snoc HX.out, take_snoc HY.out, HT.out])⟩
          case measure => simp [intOf]; omega
        · have HXY := Lib.hid (show decide (x = y) = false from by simp [hxy])
          go_wp2_with (fail)
          go_region_held3 (fun w' => w'.cell? ⟨g, off + k * 4, none⟩ = some (.int .i64 x.Start) ∧ w'.cell? ⟨g, off + k * 4 + 1, none⟩ = some (.int .i64 x.End) ∧ w'.cell? ⟨g, off + k * 4 + 2, none⟩ = some (.bool x.Frame) ∧ w'.cell? ⟨g, off + k * 4 + 3, none⟩ = some (.int .i64 x.Depth) ∧ w'.cell? ⟨g', off' + k * 4, none⟩ = some (.int .i64 y.Start) ∧ w'.cell? ⟨g', off' + k * 4 + 1, none⟩ = some (.int .i64 y.End) ∧ w'.cell? ⟨g', off' + k * 4 + 2, none⟩ = some (.bool y.Frame) ∧ w'.cell? ⟨g', off' + k * 4 + 3, none⟩ = some (.int .i64 y.Depth)) ((repeat' apply And.intro) <;> (first | ((repeat (first | assumption | with_reducible refine gro_keeps ?_ _ _ | with_reducible refine alloc_keeps ?_ _ | with_reducible refine drew_keeps ?_)); done) | (simp [go_sem]; done))) (first
            | (go_at_call 142; refine (eqRule_l (x := x) (y := y)).mono ?_; rw [HXY.out]; rintro e w1 ⟨rfl, os1, d1, rfl⟩))
          go_wp2
          go_ret
          refine ⟨ret_bool ?_, (by repeat (first | with_reducible exact Gro.refl _ | with_reducible exact Gro.refl_drew _ _ _ | with_reducible exact Gro.refl_drewN _ _ _ _ | assumption | with_reducible apply Gro.more | with_reducible apply Gro.alloc | with_reducible apply Gro.drew | with_reducible apply Gro.drewN))⟩
          symm
          simp only [decide_eq_false_iff_not]
          rintro rfl
          exact hxy (Option.some.inj (HX.out.symm.trans HY.out))
      · go_wp2
        go_ret
        refine ⟨ret_bool ?_, (by repeat (first | with_reducible exact Gro.refl _ | with_reducible exact Gro.refl_drew _ _ _ | with_reducible exact Gro.refl_drewN _ _ _ _ | assumption | with_reducible apply Gro.more | with_reducible apply Gro.alloc | with_reducible apply Gro.drew | with_reducible apply Gro.drewN))⟩
        have : k = xs.length := by omega
        subst this
        have h1 := HT.out
        rw [HL.out] at h1
        simp only [List.take_length] at h1
        rw [← HL.out] at h1
        simp at h1
        simp [h1]
  · have hne : ((xs.length : Int) != (ys.length : Int)) = true := by simp; omega
    go_enter Try.func124, Try.ntmps124
    go_wp2
    go_ret
    exact ⟨ret_bool (by symm; simp only [decide_eq_false_iff_not]; rintro rfl; exact hl rfl), Gro.refl _⟩
end Go.Proofs.Ytbhobjepjaeffaa
