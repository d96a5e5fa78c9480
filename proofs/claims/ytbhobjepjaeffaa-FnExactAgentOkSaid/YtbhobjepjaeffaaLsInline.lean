/-
  LISTS OF STRUCTS, written by a program (genlist.py): Inline: the laws' own toXS, szXS, eqXS, markXS, heldXS.
-/
import Derived.Test.YtbhobjepjaeffaaRowsPut
import Derived.Test.YtbhobjepjaeffaaAppend
import Derived.Test.YtbhobjepjaeffaaFnInline
import Derived.Deep.RegionHeld3
set_option linter.unusedVariables false
set_option linter.unusedSimpArgs false
namespace Go.Proofs.Ytbhobjepjaeffaa
open Go.RowKit
theorem atInline {e : TypeId} {w : World} {B : Nat} {A : Option Addr} {n c : Nat} {xs : List DInline} (h : (tInline.sl e).R w B [.slice A n c] xs) {k : Nat} (hk : k < xs.length) :
    ∃ g off x , A = some ⟨g, off, none⟩ ∧ g < B ∧ xs[k]? = some x ∧ w.cell? ⟨g, off + k * 5, none⟩ = some (.int .i64 x.Start) ∧ w.cell? ⟨g, off + k * 5 + 1, none⟩ = some (.int .i64 x.End) ∧ w.cell? ⟨g, off + k * 5 + 2, none⟩ = some (.int .i64 x.Level) ∧ w.cell? ⟨g, off + k * 5 + 3, none⟩ = some (.int .i64 x.Line) ∧ w.cell? ⟨g, off + k * 5 + 4, none⟩ = some (.string x.Name) ∧ I64 x.Start ∧ I64 x.End ∧ I64 x.Level ∧ I64 x.Line ∧ x.Name.size ≤ 9223372036854775807 := by
  obtain ⟨g, off, x, ec, h1, hB, h2, h3, h4⟩ := elem_at h hk
  obtain ⟨rfl, hf⟩ := tInline_R h3
  exact ⟨g, off, x, h1, hB, h2, h4 0 _ rfl, h4 1 _ rfl, h4 2 _ rfl, h4 3 _ rfl, h4 4 _ rfl, hf⟩
def mkEInline (_ : DInline) (k : Int) : DInline := ⟨k, k + 1, k + 1 + 1, k + 1 + 1 + 1, markTx (k + 1 + 1 + 1 + 1)⟩
def mkInlineS (xs : List DInline) (k : Int) : List DInline := mkL mkEInline (fun _ => 5) xs k
def cntInlineS (xs : List DInline) : Nat := xs.length * 5
theorem mkInlineS_length (xs : List DInline) (k : Int) : (mkInlineS xs k).length = xs.length := mkL_length _ _
theorem toInlineS_info : (Try.prog.info? 192).map (fun i => (i.zero, i.size, i.bytes)) = some (some (.agg #[.int .i64 0, .int .i64 0, .int .i64 0, .int .i64 0, .string ⟨#[]⟩]), 5, 48) := by kernel_rfl
theorem flatInline : Flat tInline := flat_via _ (flat_prod flat_int (flat_prod flat_int (flat_prod flat_int (flat_prod flat_int flat_str))))
theorem elInline : Elem Try.prog 99 192 tInline 48 := by
  obtain ⟨i0, hi, hz0, hz1, hz2⟩ := info_parts toInlineS_info
  exact ⟨Try.underlying99, ⟨i0, _, hi, hz0, hz1, hz2, rfl⟩, by decide⟩
set_option maxRecDepth 100000 in
theorem szInlineS_l {xs : List DInline} {w : World} {v : Value} {left : Int} (hx : (tInline.sl 192).R w w.heap.size [v] xs) (h0 : 0 ≤ left) (h1 : left ≤ 1099511627776) :
    Calls Try.prog 120 #[v, .int .i64 left] w fun e w' => e = .returned (.int .i64 (szRes left (szL szInline xs))) ∧ Gro w w' := by
  obtain ⟨A, c, rfl, h2, h3⟩ := sl_at hx
  by_cases h : (xs.length : Int) ≤ left
  · go_enter Try.func120, Try.ntmps120
    go_wp2_with (fail)
    go_loopw [1, 5] (fun a i wr => ∃ (j s : Nat), j ≤ xs.length ∧ Hid (s = ((xs.take j).map szInline).sum) ∧ (xs.length : Int) + s ≤ left ∧ a = .int .i64 (left - xs.length - s) ∧ i = .int .i64 j ∧ Hid (Gro w wr)) (fun _ i _ => xs.length - (intOf i).toNat)
    case atStart => exact ⟨0, 0, Nat.zero_le _, rfl, by omega, by simp, rfl, Gro.refl _⟩
    case round =>
      obtain ⟨j, s, hj, hs, hle, rfl, rfl, hG⟩ := hrel
      obtain ⟨os, d, rfl⟩ := hG.out
      clear hG
      by_cases hlt : j < xs.length
      · obtain ⟨g, off, x, rfl, hgb, hxk, hx0, hx1, hx2, hx3, hx4, bx0, bx1, bx2, bx3, bx4⟩ := atInline hx hlt
        have HX := Lib.hid (szSnoc szInline hxk)
        have HM := Lib.hid (szLe szInline xs (j + 1))
        obtain ⟨n0, hn0⟩ : ∃ n, szInline x = n := ⟨_, rfl⟩
        have HN := Lib.hid hn0
        clear hxk hx hn0
        by_cases hsz : (xs.length : Int) + s + n0 ≤ left
        · have HR := Lib.hid (show szRes (left - xs.length - s) n0 = left - xs.length - s - n0 from if_pos (by omega))
          go_wp2_with (go_at_call 138; refine (szInline_l (x := x) bx4 (by omega) (by omega)).mono ?_; rw [HN.out, HR.out]; rintro e w1 ⟨rfl, os1, d1, rfl⟩)
          go_roundw
          case rel => exact ⟨j + 1, s + n0, by omega, Lib.hid (by rw [hs.out, HX.out, HN.out]), by omega, by go_num, by go_num, Lib.hid (by repeat (first | with_reducible exact Gro.refl _ | with_reducible exact Gro.refl_drew _ _ _ | with_reducible exact Gro.refl_drewN _ _ _ _ | assumption | with_reducible apply Gro.more | with_reducible apply Gro.alloc | with_reducible apply Gro.drew | with_reducible apply Gro.drewN))⟩
          case measure => simp [intOf]; omega
        · have HR := Lib.hid (show szRes (left - xs.length - s) n0 = -1 from if_neg (by omega))
          have HQ := Lib.hid (show szRes left (szL szInline xs) = -1 from if_neg (by have h1 := HX.out; have h2 := HM.out; have h3 := hs.out; have h4 := HN.out; unfold szL; omega))
          go_wp2_with (go_at_call 138; refine (szInline_l (x := x) bx4 (by omega) (by omega)).mono ?_; rw [HN.out, HR.out]; rintro e w1 ⟨rfl, os1, d1, rfl⟩)
          go_ret
          exact ⟨ret_int HQ.out.symm, (by repeat (first | with_reducible exact Gro.refl _ | with_reducible exact Gro.refl_drew _ _ _ | with_reducible exact Gro.refl_drewN _ _ _ _ | assumption | with_reducible apply Gro.more | with_reducible apply Gro.alloc | with_reducible apply Gro.drew | with_reducible apply Gro.drewN))⟩
      · go_wp2
        go_ret
        exact ⟨ret_int (by
          have h3 := hs.out
          rw [szAll szInline (show j = xs.length by omega)] at h3
          unfold szRes szL
          rw [if_pos (by omega)]
          omega), (by repeat (first | with_reducible exact Gro.refl _ | with_reducible exact Gro.refl_drew _ _ _ | with_reducible exact Gro.refl_drewN _ _ _ _ | assumption | with_reducible apply Gro.more | with_reducible apply Gro.alloc | with_reducible apply Gro.drew | with_reducible apply Gro.drewN))⟩
  · have HR := Lib.hid (show szRes left (szL szInline xs) = -1 from if_neg (by unfold szL; omega))
    go_enter Try.func120, Try.ntmps120
    go_wp2
    go_ret
    exact ⟨ret_int HR.out.symm, Gro.refl _⟩
set_option maxRecDepth 100000 in
theorem toInlineS_l {xs : List DInline} {w : World} {v : Value} (hx : (tInline.sl 192).R w w.heap.size [v] xs) (hn : szL szInline xs ≤ 1099511627776) :
    Calls Try.prog 123 #[v] w (RetSl tInline 192 xs w) := by
  obtain ⟨A, c, rfl, h2, h3⟩ := sl_at hx
  obtain ⟨i0, hi, hz0, hz1, hz2⟩ := info_parts toInlineS_info
  have hn1 : xs.length ≤ 1099511627776 := Nat.le_trans (szL_len _ _) hn
  have hmk := run_make_rowN (P := Try.prog) 99 192 i0 _ Try.underlying99 hi hz0 .i64 .i64 xs.length xs.length (Nat.le_refl _) (by rw [hz2]; omega) (by omega)
  rw [hz1] at hmk
  clear hz0 hz1 hz2 hi
  go_enter Try.func123, Try.ntmps123
  go_wp2_with (fail)
  go_loopw [4] (fun i wr => ∃ (j : Nat) (cur : Array Value) (os : Array Obj) (d : Nat) (S' : List Nat), j ≤ xs.length ∧ i = .int .i64 j ∧ Hid (wr = gro (w.alloc (.cells cur 192)) os d) ∧ Hid (Rows tInline (gro (w.alloc (.cells cur 192)) os d) (cur.toList.take (j * 5)) (xs.take j) S') ∧ Hid (S'.Nodup) ∧ Hid (∀ b ∈ S', w.heap.size + 1 ≤ b) ∧ Hid (cur.size = xs.length * 5)) (fun i _ => xs.length - (intOf i).toNat)
  case atStart => exact ⟨0, _, _, _, [], Nat.zero_le _, rfl, gro_refl, Lib.hid (by simp [Rows]), Lib.hid List.nodup_nil, Lib.hid (by simp), madeCells_size _ _⟩
  case round =>
    obtain ⟨j, cur, os, d, S', hj, rfl, hw, hr, hN, hL, hsz⟩ := hrel
    have hw' := hw.out
    subst hw'
    clear hw hmk
    by_cases hlt : j < xs.length
    · obtain ⟨g, off, x, rfl, hgb, hxk, hx0, hx1, hx2, hx3, hx4, bx0, bx1, bx2, bx3, bx4⟩ := atInline hx hlt
      have hjs : j * 5 + 4 < cur.size := by have := hsz.out; omega
      obtain ⟨o0, ho0⟩ : ∃ u, cur[j * 5]? = some u := ⟨_, Array.getElem?_eq_getElem (by omega)⟩
      obtain ⟨o1, ho1⟩ : ∃ u, (cur.setIfInBounds (j * 5) (.int .i64 x.Start))[j * 5 + 1]? = some u := ⟨_, Array.getElem?_eq_getElem (by simp only [Array.size_setIfInBounds]; omega)⟩
      obtain ⟨o2, ho2⟩ : ∃ u, ((cur.setIfInBounds (j * 5) (.int .i64 x.Start)).setIfInBounds (j * 5 + 1) (.int .i64 x.End))[j * 5 + 2]? = some u := ⟨_, Array.getElem?_eq_getElem (by simp only [Array.size_setIfInBounds]; omega)⟩
      obtain ⟨o3, ho3⟩ : ∃ u, (((cur.setIfInBounds (j * 5) (.int .i64 x.Start)).setIfInBounds (j * 5 + 1) (.int .i64 x.End)).setIfInBounds (j * 5 + 2) (.int .i64 x.Level))[j * 5 + 3]? = some u := ⟨_, Array.getElem?_eq_getElem (by simp only [Array.size_setIfInBounds]; omega)⟩
      obtain ⟨o4, ho4⟩ : ∃ u, ((((cur.setIfInBounds (j * 5) (.int .i64 x.Start)).setIfInBounds (j * 5 + 1) (.int .i64 x.End)).setIfInBounds (j * 5 + 2) (.int .i64 x.Level)).setIfInBounds (j * 5 + 3) (.int .i64 x.Line))[j * 5 + 4]? = some u := ⟨_, Array.getElem?_eq_getElem (by simp only [Array.size_setIfInBounds]; omega)⟩
      have HX := Lib.hid hxk
      have hszx : szInline x ≤ 1099511627776 := Nat.le_trans (szL_elem szInline hxk) hn
      clear hxk hx
      go_wp2_with (fail)
      refine (toInline_l (x := x) bx0 bx1 bx2 bx3 bx4 hszx).mono ?_
      rintro e w1 ⟨rfl, hF, os1, d1, rfl⟩
      go_wp2
      go_roundw
      case rel =>
        rw [gro_gro] at hF
        obtain ⟨S'', h1, h2, h3, h4⟩ := rows_put (T := tInline) hr.out hN.out hL.out hsz.out hlt HX.out hF (by rw [← gro_gro]; exact Gro.of _ _ _)
        exact ⟨j + 1, _, os ++ os1, d1, S'', by omega, by go_num, gro_gro _ _ _ _, h1, h2, h3, h4⟩
      case measure => simp [intOf]; omega
    · have hje : j = xs.length := by omega
      subst hje
      go_wp2
      go_ret
      exact rows_done hr.out hN.out hL.out hsz.out (Nat.le_refl _) (by omega)
set_option maxRecDepth 100000 in
theorem eqInlineS_l {xs ys : List DInline} {w : World} {v u : Value} (hx : (tInline.sl 192).R w w.heap.size [v] xs) (hy : (tInline.sl 192).R w w.heap.size [u] ys) :
    Calls Try.prog 126 #[v, u] w fun e w' => e = .returned (.bool (decide (xs = ys))) ∧ Gro w w' := by
  obtain ⟨A, c, rfl, h1, h2⟩ := sl_at hx
  obtain ⟨A', c', rfl, k1, k2⟩ := sl_at hy
  by_cases hl : xs.length = ys.length
  · have hne : ((xs.length : Int) != (ys.length : Int)) = false := by simp [hl]
    have HL := Lib.hid hl
    clear hl
    go_enter Try.func126, Try.ntmps126
    go_wp2_with (fail)
    go_loopw [5] (fun i wr => ∃ k : Nat, k ≤ xs.length ∧ i = .int .i64 k ∧ Hid (Gro w wr) ∧ Hid (xs.take k = ys.take k)) (fun i _ => xs.length - (intOf i).toNat)
    case atStart => exact ⟨0, Nat.zero_le _, rfl, Gro.refl _, Lib.hid (by simp)⟩
    case round =>
      obtain ⟨k, hk, rfl, hG, HT⟩ := hrel
      obtain ⟨os, d, rfl⟩ := hG.out
      clear hG
      by_cases hlt : k < xs.length
      · have hlt2 : k < ys.length := by rw [← HL.out]; exact hlt
        obtain ⟨g, off, x, rfl, hgb, hxk, hx0, hx1, hx2, hx3, hx4, bx0, bx1, bx2, bx3, bx4⟩ := atInline hx hlt
        obtain ⟨g', off', y, rfl, hgb', hyk, hy0, hy1, hy2, hy3, hy4, by0, by1, by2, by3, by4⟩ := atInline hy hlt2
        have HX := Lib.hid hxk
        have HY := Lib.hid hyk
        clear hxk hyk hx hy
        by_cases hxy : x = y
        · subst hxy
          go_wp2_with (fail)
          go_region_held3 (fun w' => w'.cell? ⟨g, off + k * 5, none⟩ = some (.int .i64 x.Start) ∧ w'.cell? ⟨g, off + k * 5 + 1, none⟩ = some (.int .i64 x.End) ∧ w'.cell? ⟨g, off + k * 5 + 2, none⟩ = some (.int .i64 x.Level) ∧ w'.cell? ⟨g, off + k * 5 + 3, none⟩ = some (.int .i64 x.Line) ∧ w'.cell? ⟨g, off + k * 5 + 4, none⟩ = some (.string x.Name) ∧ w'.cell? ⟨g', off' + k * 5, none⟩ = some (.int .i64 x.Start) ∧ w'.cell? ⟨g', off' + k * 5 + 1, none⟩ = some (.int .i64 x.End) ∧ w'.cell? ⟨g', off' + k * 5 + 2, none⟩ = some (.int .i64 x.Level) ∧ w'.cell? ⟨g', off' + k * 5 + 3, none⟩ = some (.int .i64 x.Line) ∧ w'.cell? ⟨g', off' + k * 5 + 4, none⟩ = some (.string x.Name)) ((repeat' apply And.intro) <;> (first | ((repeat (first | assumption | with_reducible refine gro_keeps ?_ _ _ | with_reducible refine alloc_keeps ?_ _ | with_reducible refine drew_keeps ?_)); done) | (simp [go_sem]; done))) (first
            | (go_at_call 144; refine (eqInline_l (x := x) (y := x)).mono ?_; rintro e w1 ⟨rfl, os1, d1, rfl⟩))
          go_wp2
          go_roundw
          case rel => exact ⟨k + 1, by omega, by go_num, Lib.hid (by repeat (first | with_reducible exact Gro.refl _ | with_reducible exact Gro.refl_drew _ _ _ | with_reducible exact Gro.refl_drewN _ _ _ _ | assumption | with_reducible apply Gro.more | with_reducible apply Gro.alloc | with_reducible apply Gro.drew | with_reducible apply Gro.drewN)), Lib.hid (by rw [take_snoc HX.out, take_snoc HY.out, HT.out])⟩
          case measure => simp [intOf]; omega
        · have HXY := Lib.hid (show decide (x = y) = false from by simp [hxy])
          go_wp2_with (fail)
          go_region_held3 (fun w' => w'.cell? ⟨g, off + k * 5, none⟩ = some (.int .i64 x.Start) ∧ w'.cell? ⟨g, off + k * 5 + 1, none⟩ = some (.int .i64 x.End) ∧ w'.cell? ⟨g, off + k * 5 + 2, none⟩ = some (.int .i64 x.Level) ∧ w'.cell? ⟨g, off + k * 5 + 3, none⟩ = some (.int .i64 x.Line) ∧ w'.cell? ⟨g, off + k * 5 + 4, none⟩ = some (.string x.Name) ∧ w'.cell? ⟨g', off' + k * 5, none⟩ = some (.int .i64 y.Start) ∧ w'.cell? ⟨g', off' + k * 5 + 1, none⟩ = some (.int .i64 y.End) ∧ w'.cell? ⟨g', off' + k * 5 + 2, none⟩ = some (.int .i64 y.Level) ∧ w'.cell? ⟨g', off' + k * 5 + 3, none⟩ = some (.int .i64 y.Line) ∧ w'.cell? ⟨g', off' + k * 5 + 4, none⟩ = some (.string y.Name)) ((repeat' apply And.intro) <;> (first | ((repeat (first | assumption | with_reducible refine gro_keeps ?_ _ _ | with_reducible refine alloc_keeps ?_ _ | with_reducible refine drew_keeps ?_)); done) | (simp [go_sem]; done))) (first
            | (go_at_call 144; refine (eqInline_l (x := x) (y := y)).mono ?_; rw [HXY.out]; rintro e w1 ⟨rfl, os1, d1, rfl⟩))
          go_wp2
          go_ret
          refine ⟨ret_bool ?_, (by repeat (first | with_reducible exact Gro.refl _ | with_reducible exact Gro.refl_drew _ _ _ | with_reducible exact Gro.refl_drewN _ _ _ _ | assumption | with_reducible apply Gro.more | with_reducible apply Gro.alloc | with_reducible apply Gro.drew | with_reducible apply Gro.drewN))⟩
          symm
          simp only [decide_eq_false_iff_not]
          rintro rfl
          exact hxy (Option.some.inj (HX.out.symm.trans HY.out))
      · go_wp2
        go_ret
        refine ⟨ret_bool ?_, (by repeat (first | with_reducible exact Gro.refl _ | with_reducible exact Gro.refl_drew _ _ _ | with_reducible exact Gro.refl_drewN _ _ _ _ | assumption | with_reducible apply Gro.more | with_reducible apply Gro.alloc | with_reducible apply Gro.drew | with_reducible apply Gro.drewN))⟩
        have : k = xs.length := by omega
        subst this
        have h1 := HT.out
        rw [HL.out] at h1
        simp only [List.take_length] at h1
        rw [← HL.out] at h1
        simp at h1
        simp [h1]
  · have hne : ((xs.length : Int) != (ys.length : Int)) = true := by simp; omega
    go_enter Try.func126, Try.ntmps126
    go_wp2
    go_ret
    exact ⟨ret_bool (by symm; simp only [decide_eq_false_iff_not]; rintro rfl; exact hl rfl), Gro.refl _⟩
end Go.Proofs.Ytbhobjepjaeffaa
