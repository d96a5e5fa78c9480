/-
  LISTS OF STRUCTS, written by a program (genlist.py): Row: the laws' own toXS, szXS, eqXS, markXS, heldXS.
-/
import Derived.Test.YtbhobjepjaeffaaRowsPut
import Derived.Test.YtbhobjepjaeffaaAppend
import Derived.Test.YtbhobjepjaeffaaFnRow
import Derived.Deep.RegionHeld3
set_option linter.unusedVariables false
set_option linter.unusedSimpArgs false
namespace Go.Proofs.Ytbhobjepjaeffaa
open Go.RowKit
theorem atRow {e : TypeId} {w : World} {B : Nat} {A : Option Addr} {n c : Nat} {xs : List DRow} (h : (tRow.sl e).R w B [.slice A n c] xs) {k : Nat} (hk : k < xs.length) :
    ∃ g off x , A = some ⟨g, off, none⟩ ∧ g < B ∧ xs[k]? = some x ∧ w.cell? ⟨g, off + k * 3, none⟩ = some (.int .i64 x.Offset) ∧ w.cell? ⟨g, off + k * 3 + 1, none⟩ = some (.int .i64 x.Line) ∧ w.cell? ⟨g, off + k * 3 + 2, none⟩ = some (.bool x.Start) ∧ I64 x.Offset ∧ I64 x.Line := by
  obtain ⟨g, off, x, ec, h1, hB, h2, h3, h4⟩ := elem_at h hk
  obtain ⟨rfl, hf⟩ := tRow_R h3
  exact ⟨g, off, x, h1, hB, h2, h4 0 _ rfl, h4 1 _ rfl, h4 2 _ rfl, hf⟩
def mkERow (_ : DRow) (k : Int) : DRow := ⟨k, k + 1, decide ((k + 1 + 1).tmod 3 = 0)⟩
def mkRowS (xs : List DRow) (k : Int) : List DRow := mkL mkERow (fun _ => 3) xs k
def cntRowS (xs : List DRow) : Nat := xs.length * 3
theorem mkRowS_length (xs : List DRow) (k : Int) : (mkRowS xs k).length = xs.length := mkL_length _ _
theorem toRowS_info : (Try.prog.info? 189).map (fun i => (i.zero, i.size, i.bytes)) = some (some (.agg #[.int .i64 0, .int .i64 0, .bool false]), 3, 24) := by kernel_rfl
theorem flatRow : Flat tRow := flat_via _ (flat_prod flat_int (flat_prod flat_int flat_bool))
theorem elRow : Elem Try.prog 98 189 tRow 24 := by
  obtain ⟨i0, hi, hz0, hz1, hz2⟩ := info_parts toRowS_info
  exact ⟨Try.underlying98, ⟨i0, _, hi, hz0, hz1, hz2, rfl⟩, by decide⟩
theorem szRowS_l {xs : List DRow} {w : World} {v : Value} {left : Int} (hx : (tRow.sl 189).R w w.heap.size [v] xs) (h0 : 0 ≤ left) (h1 : left ≤ 1099511627776) :
    Calls Try.prog 119 #[v, .int .i64 left] w fun e w' => e = .returned (.int .i64 (szRes left xs.length)) ∧ Gro w w' := by
  obtain ⟨A, c, rfl, h2, h3⟩ := sl_at hx
  clear hx
  by_cases h : (xs.length : Int) ≤ left
  · have HR := Lib.hid (show szRes left xs.length = left - xs.length from if_pos h)
    go_enter Try.func119, Try.ntmps119
    go_wp2
    go_ret
    exact ⟨ret_int HR.out.symm, Gro.refl _⟩
  · have HR := Lib.hid (show szRes left xs.length = -1 from if_neg h)
    go_enter Try.func119, Try.ntmps119
    go_wp2
    go_ret
    exact ⟨ret_int HR.out.symm, Gro.refl _⟩
set_option maxRecDepth 100000 in
theorem toRowS_l {xs : List DRow} {w : World} {v : Value} (hx : (tRow.sl 189).R w w.heap.size [v] xs) (hn : xs.length ≤ 1099511627776) :
    Calls Try.prog 122 #[v] w (RetSl tRow 189 xs w) := by
  obtain ⟨A, c, rfl, h2, h3⟩ := sl_at hx
  obtain ⟨i0, hi, hz0, hz1, hz2⟩ := info_parts toRowS_info
  have hn1 : xs.length ≤ 1099511627776 := hn
  have hmk := run_make_rowN (P := Try.prog) 98 189 i0 _ Try.underlying98 hi hz0 .i64 .i64 xs.length xs.length (Nat.le_refl _) (by rw [hz2]; omega) (by omega)
  rw [hz1] at hmk
  clear hz0 hz1 hz2 hi
  go_enter Try.func122, Try.ntmps122
  go_wp2_with (fail)
  go_loopw [4] (fun i wr => ∃ (j : Nat) (cur : Array Value) (os : Array Obj) (d : Nat) (S' : List Nat), j ≤ xs.length ∧ i = .int .i64 j ∧ Hid (wr = gro (w.alloc (.cells cur 189)) os d) ∧ Hid (Rows tRow (gro (w.alloc (.cells cur 189)) os d) (cur.toList.take (j * 3)) (xs.take j) S') ∧ Hid (S'.Nodup) ∧ Hid (∀ b ∈ S', w.heap.size + 1 ≤ b) ∧ Hid (cur.size = xs.length * 3)) (fun i _ => xs.length - (intOf i).toNat)
  case atStart => exact ⟨0, _, _, _, [], Nat.zero_le _, rfl, gro_refl, Lib.hid (by simp [Rows]), Lib.hid List.nodup_nil, Lib.hid (by simp), madeCells_size _ _⟩
  case round =>
    obtain ⟨j, cur, os, d, S', hj, rfl, hw, hr, hN, hL, hsz⟩ := hrel
    have hw' := hw.out
    subst hw'
    clear hw hmk
    by_cases hlt : j < xs.length
    · obtain ⟨g, off, x, rfl, hgb, hxk, hx0, hx1, hx2, bx0, bx1⟩ := atRow hx hlt
      have hjs : j * 3 + 2 < cur.size := by have := hsz.out; omega
      obtain ⟨o0, ho0⟩ : ∃ u, cur[j * 3]? = some u := ⟨_, Array.getElem?_eq_getElem (by omega)⟩
      obtain ⟨o1, ho1⟩ : ∃ u, (cur.setIfInBounds (j * 3) (.int .i64 x.Offset))[j * 3 + 1]? = some u := ⟨_, Array.getElem?_eq_getElem (by simp only [Array.size_setIfInBounds]; omega)⟩
      obtain ⟨o2, ho2⟩ : ∃ u, ((cur.setIfInBounds (j * 3) (.int .i64 x.Offset)).setIfInBounds (j * 3 + 1) (.int .i64 x.Line))[j * 3 + 2]? = some u := ⟨_, Array.getElem?_eq_getElem (by simp only [Array.size_setIfInBounds]; omega)⟩
      have HX := Lib.hid hxk
      clear hxk hx
      go_wp2_with (fail)
      refine (toRow_l (x := x) bx0 bx1).mono ?_
      rintro e w1 ⟨rfl, hF, os1, d1, rfl⟩
      go_wp2
      go_roundw
      case rel =>
        rw [gro_gro] at hF
        obtain ⟨S'', h1, h2, h3, h4⟩ := rows_put (T := tRow) hr.out hN.out hL.out hsz.out hlt HX.out hF (by rw [← gro_gro]; exact Gro.of _ _ _)
        exact ⟨j + 1, _, os ++ os1, d1, S'', by omega, by go_num, gro_gro _ _ _ _, h1, h2, h3, h4⟩
      case measure => simp [intOf]; omega
    · have hje : j = xs.length := by omega
      subst hje
      go_wp2
      go_ret
      exact rows_done hr.out hN.out hL.out hsz.out (Nat.le_refl _) (by omega)
set_option maxRecDepth 100000 in
theorem eqRowS_l {xs ys : List DRow} {w : World} {v u : Value} (hx : (tRow.sl 189).R w w.heap.size [v] xs) (hy : (tRow.sl 189).R w w.heap.size [u] ys) :
    Calls Try.prog 125 #[v, u] w fun e w' => e = .returned (.bool (decide (xs = ys))) ∧ Gro w w' := by
  obtain ⟨A, c, rfl, h1, h2⟩ := sl_at hx
  obtain ⟨A', c', rfl, k1, k2⟩ := sl_at hy
  by_cases hl : xs.length = ys.length
  · have hne : ((xs.length : Int) != (ys.length : Int)) = false := by simp [hl]
    have HL := Lib.hid hl
    clear hl
    go_enter Try.func125, Try.ntmps125
    go_wp2_with (fail)
    go_loopw [5] (fun i wr => ∃ k : Nat, k ≤ xs.length ∧ i = .int .i64 k ∧ Hid (Gro w wr) ∧ Hid (xs.take k = ys.take k)) (fun i _ => xs.length - (intOf i).toNat)
    case atStart => exact ⟨0, Nat.zero_le _, rfl, Gro.refl _, Lib.hid (by simp)⟩
    case round =>
      obtain ⟨k, hk, rfl, hG, HT⟩ := hrel
      obtain ⟨os, d, rfl⟩ := hG.out
      clear hG
      by_cases hlt : k < xs.length
      · have hlt2 : k < ys.length := by rw [← HL.out]; exact hlt
        obtain ⟨g, off, x, rfl, hgb, hxk, hx0, hx1, hx2, bx0, bx1⟩ := atRow hx hlt
        obtain ⟨g', off', y, rfl, hgb', hyk, hy0, hy1, hy2, by0, by1⟩ := atRow hy hlt2
        have HX := Lib.hid hxk
        have HY := Lib.hid hyk
        clear hxk hyk hx hy
        by_cases hxy : x = y
        · subst hxy
          go_wp2_with (fail)
          go_region_held3 (fun w' => w'.cell? ⟨g, off + k * 3, none⟩ = some (.int .i64 x.Offset) ∧ w'.cell? ⟨g, off + k * 3 + 1, none⟩ = some (.int .i64 x.Line) ∧ w'.cell? ⟨g, off + k * 3 + 2, none⟩ = some (.bool x.Start) ∧ w'.cell? ⟨g', off' + k * 3, none⟩ = some (.int .i64 x.Offset) ∧ w'.cell? ⟨g', off' + k * 3 + 1, none⟩ = some (.int .i64 x.Line) ∧ w'.cell? ⟨g', off' + k * 3 + 2, none⟩ = some (.bool x.Start)) ((repeat' apply And.intro) <;> (first | ((repeat (first | assumption | with_reducible refine gro_keeps ?_ _ _ | with_reducible refine alloc_keeps ?_ _ | with_reducible refine drew_keeps ?_)); done) | (simp [go_sem]; done))) (first
            | (go_at_call 143; refine (eqRow_l (x := x) (y := x)).mono ?_; rintro e w1 ⟨rfl, os1, d1, rfl⟩))
          go_wp2
          go_roundw
          case rel => exact ⟨k + 1, by omega, by go_num, Lib.hid (by repeat (first | with_reducible exact Gro.refl _ | with_reducible exact Gro.refl_drew _ _ _ | with_reducible exact Gro.refl_drewN _ _ _ _ | assumption | with_reducible apply Gro.more | with_reducible apply Gro.alloc | with_reducible apply Gro.drew | with_reducible apply Gro.drewN)), Lib.hid (by rw [take_snoc HX.out, take_snoc HY.out, HT.out])⟩
          case measure => simp [intOf]; omega
        · have HXY := Lib.hid (show decide (x = y) = false from by simp [hxy])
          go_wp2_with (fail)
          go_region_held3 (fun w' => w'.cell? ⟨g, off + k * 3, none⟩ = some (.int .i64 x.Offset) ∧ w'.cell? ⟨g, off + k * 3 + 1, none⟩ = some (.int .i64 x.Line) ∧ w'.cell? ⟨g, off + k * 3 + 2, none⟩ = some (.bool x.Start) ∧ w'.cell? ⟨g', off' + k * 3, none⟩ = some (.int .i64 y.Offset) ∧ w'.cell? ⟨g', off' + k * 3 + 1, none⟩ = some (.int .i64 y.Line) ∧ w'.cell? ⟨g', off' + k * 3 + 2, none⟩ = some (.bool y.Start)) ((repeat' apply And.intro) <;> (first | ((repeat (first | assumption | with_reducible refine gro_keeps ?_ _ _ | with_reducible refine alloc_keeps ?_ _ | with_reducible refine drew_keeps ?_)); done) | (simp [go_sem]; done))) (first
            | (go_at_call 143; refine (eqRow_l (x := x) (y := y)).mono ?_; rw [HXY.out]; rintro e w1 ⟨rfl, os1, d1, rfl⟩))
          go_wp2
          go_ret
          refine ⟨ret_bool ?_, (by repeat (first | with_reducible exact Gro.refl _ | with_reducible exact Gro.refl_drew _ _ _ | with_reducible exact Gro.refl_drewN _ _ _ _ | assumption | with_reducible apply Gro.more | with_reducible apply Gro.alloc | with_reducible apply Gro.drew | with_reducible apply Gro.drewN))⟩
          symm
          simp only [decide_eq_false_iff_not]
          rintro rfl
          exact hxy (Option.some.inj (HX.out.symm.trans HY.out))
      · go_wp2
        go_ret
        refine ⟨ret_bool ?_, (by repeat (first | with_reducible exact Gro.refl _ | with_reducible exact Gro.refl_drew _ _ _ | with_reducible exact Gro.refl_drewN _ _ _ _ | assumption | with_reducible apply Gro.more | with_reducible apply Gro.alloc | with_reducible apply Gro.drew | with_reducible apply Gro.drewN))⟩
        have : k = xs.length := by omega
        subst this
        have h1 := HT.out
        rw [HL.out] at h1
        simp only [List.take_length] at h1
        rw [← HL.out] at h1
        simp at h1
        simp [h1]
  · have hne : ((xs.length : Int) != (ys.length : Int)) = true := by simp; omega
    go_enter Try.func125, Try.ntmps125
    go_wp2
    go_ret
    exact ⟨ret_bool (by symm; simp only [decide_eq_false_iff_not]; rintro rfl; exact hl rfl), Gro.refl _⟩
end Go.Proofs.Ytbhobjepjaeffaa
