/-
  LISTS OF STRUCTS THAT HOLD SCALARS AND SLICES, written by a program (genmix.py): Debug: the laws' own toXS, szXS, eqXS, markXS, heldXS.
-/
import Derived.Test.YtbhobjepjaeffaaMix
import Derived.Test.YtbhobjepjaeffaaMix
import Derived.Test.YtbhobjepjaeffaaFnDebug
import Derived.Deep.RegionHeld3
set_option linter.unusedVariables false
set_option linter.unusedSimpArgs false
namespace Go.Proofs.Ytbhobjepjaeffaa
open Go.RowKit
theorem atDebug {e : TypeId} {w : World} {B : Nat} {A : Option Addr} {n c : Nat} {xs : List DDebug} (h : (tDebug.sl e).R w B [.slice A n c] xs) {k : Nat} (hk : k < xs.length) :
    ∃ g off x A0 c0 A1 c1 A2 c2 A3 c3, A = some ⟨g, off, none⟩ ∧ g < B ∧ xs[k]? = some x ∧ w.cell? ⟨g, off + k * 5, none⟩ = some (.int .i64 x.Id) ∧ w.cell? ⟨g, off + k * 5 + 1, none⟩ = some (.slice A0 x.Symbols.length c0) ∧ w.cell? ⟨g, off + k * 5 + 2, none⟩ = some (.slice A1 x.Rules.length c1) ∧ w.cell? ⟨g, off + k * 5 + 3, none⟩ = some (.slice A2 x.Rows.length c2) ∧ w.cell? ⟨g, off + k * 5 + 4, none⟩ = some (.slice A3 x.Inlines.length c3) ∧ I64 x.Id ∧ (tSymbol.sl 118).R w B [.slice A0 x.Symbols.length c0] x.Symbols ∧ (tRule.sl 185).R w B [.slice A1 x.Rules.length c1] x.Rules ∧ (tRow.sl 189).R w B [.slice A2 x.Rows.length c2] x.Rows ∧ (tInline.sl 192).R w B [.slice A3 x.Inlines.length c3] x.Inlines := by
  obtain ⟨g, off, x, ec, h1, hB, h2, h3, h4⟩ := elem_at h hk
  obtain ⟨A0, c0, A1, c1, A2, c2, A3, c3, rfl, hf⟩ := tDebug_R h3
  exact ⟨g, off, x, A0, c0, A1, c1, A2, c2, A3, c3, h1, hB, h2, h4 0 _ rfl, h4 1 _ rfl, h4 2 _ rfl, h4 3 _ rfl, h4 4 _ rfl, hf⟩
def mkEDebug (x : DDebug) (k : Int) : DDebug := ⟨k, mkSymbolS x.Symbols (k + 1), mkRuleS x.Rules (k + 1 + (cntSymbolS x.Symbols : Nat)), mkRowS x.Rows (k + 1 + (cntSymbolS x.Symbols : Nat) + (cntRuleS x.Rules : Nat)), mkInlineS x.Inlines (k + 1 + (cntSymbolS x.Symbols : Nat) + (cntRuleS x.Rules : Nat) + (cntRowS x.Rows : Nat))⟩
def cntEDebug (x : DDebug) : Nat := 1 + cntSymbolS x.Symbols + cntRuleS x.Rules + cntRowS x.Rows + cntInlineS x.Inlines
def mkDebugS (xs : List DDebug) (k : Int) : List DDebug := mkL mkEDebug cntEDebug xs k
def cntDebugS (xs : List DDebug) : Nat := cntL cntEDebug xs
theorem mkDebugS_length (xs : List DDebug) (k : Int) : (mkDebugS xs k).length = xs.length := mkL_length _ _
theorem cntEDebug_eq (x : DDebug) : cntEDebug x = 1 + cntSymbolS x.Symbols + cntRuleS x.Rules + cntRowS x.Rows + cntInlineS x.Inlines := rfl
theorem toDebugS_info : (Try.prog.info? 101).map (fun i => (i.zero, i.size, i.bytes)) = some (some (.agg #[.int .i64 0, .slice none 0 0, .slice none 0 0, .slice none 0 0, .slice none 0 0]), 5, 104) := by kernel_rfl
theorem elDebug : Elem Try.prog 53 101 tDebug 104 := by
  obtain ⟨i0, hi, hz0, hz1, hz2⟩ := info_parts toDebugS_info
  exact ⟨Try.underlying53, ⟨i0, _, hi, hz0, hz1, hz2, rfl⟩, by decide⟩
set_option maxRecDepth 100000 in
theorem szDebugS_l {xs : List DDebug} {w : World} {v : Value} {left : Int} (hx : (tDebug.sl 101).R w w.heap.size [v] xs) (h0 : 0 ≤ left) (h1 : left ≤ 1099511627776) :
    Calls Try.prog 64 #[v, .int .i64 left] w fun e w' => e = .returned (.int .i64 (szRes left (szL szDebug xs))) ∧ Gro w w' := by
  obtain ⟨A, c, rfl, h2, h3⟩ := sl_at hx
  by_cases h : (xs.length : Int) ≤ left
  · go_enter Try.func64, Try.ntmps64
    go_wp2_with (fail)
    go_loopw [1, 5] (fun a i wr => ∃ (j s : Nat), j ≤ xs.length ∧ Hid (s = ((xs.take j).map szDebug).sum) ∧ (xs.length : Int) + s ≤ left ∧ a = .int .i64 (left - xs.length - s) ∧ i = .int .i64 j ∧ Hid (Gro w wr)) (fun _ i _ => xs.length - (intOf i).toNat)
    case atStart => exact ⟨0, 0, Nat.zero_le _, rfl, by omega, by simp, rfl, Gro.refl _⟩
    case round =>
      obtain ⟨j, s, hj, hs, hle, rfl, rfl, hG⟩ := hrel
      obtain ⟨os, d, rfl⟩ := hG.out
      clear hG
      by_cases hlt : j < xs.length
      · obtain ⟨g, off, x, A0, c0, A1, c1, A2, c2, A3, c3, rfl, hgb, hxk, hx0, hx1, hx2, hx3, hx4, bx0, bx1, bx2, bx3, bx4⟩ := atDebug hx hlt
        have HX := Lib.hid (szSnoc szDebug hxk)
        have HM := Lib.hid (szLe szDebug xs (j + 1))
        obtain ⟨n0, hn0⟩ : ∃ n, szDebug x = n := ⟨_, rfl⟩
        have HN := Lib.hid hn0
        clear hxk hx hn0
        by_cases hsz : (xs.length : Int) + s + n0 ≤ left
        · have HR := Lib.hid (show szRes (left - xs.length - s) n0 = left - xs.length - s - n0 from if_pos (by omega))
          go_wp2_with (go_at_call 95; refine (szDebug_l (x := x) (Ty.up _ bx1 (by repeat (first | with_reducible exact Gro.refl _ | with_reducible exact Gro.refl_drew _ _ _ | with_reducible exact Gro.refl_drewN _ _ _ _ | assumption | with_reducible apply Gro.more | with_reducible apply Gro.alloc | with_reducible apply Gro.drew | with_reducible apply Gro.drewN))) (Ty.up _ bx2 (by repeat (first | with_reducible exact Gro.refl _ | with_reducible exact Gro.refl_drew _ _ _ | with_reducible exact Gro.refl_drewN _ _ _ _ | assumption | with_reducible apply Gro.more | with_reducible apply Gro.alloc | with_reducible apply Gro.drew | with_reducible apply Gro.drewN))) (Ty.up _ bx3 (by repeat (first | with_reducible exact Gro.refl _ | with_reducible exact Gro.refl_drew _ _ _ | with_reducible exact Gro.refl_drewN _ _ _ _ | assumption | with_reducible apply Gro.more | with_reducible apply Gro.alloc | with_reducible apply Gro.drew | with_reducible apply Gro.drewN))) (Ty.up _ bx4 (by repeat (first | with_reducible exact Gro.refl _ | with_reducible exact Gro.refl_drew _ _ _ | with_reducible exact Gro.refl_drewN _ _ _ _ | assumption | with_reducible apply Gro.more | with_reducible apply Gro.alloc | with_reducible apply Gro.drew | with_reducible apply Gro.drewN))) (by omega) (by omega)).mono ?_; rw [HN.out, HR.out]; rintro e w1 ⟨rfl, os1, d1, rfl⟩)
          go_roundw
          case rel => exact ⟨j + 1, s + n0, by omega, Lib.hid (by rw [hs.out, HX.out, HN.out]), by omega, by go_num, by go_num, Lib.hid (by repeat (first | with_reducible exact Gro.refl _ | with_reducible exact Gro.refl_drew _ _ _ | with_reducible exact Gro.refl_drewN _ _ _ _ | assumption | with_reducible apply Gro.more | with_reducible apply Gro.alloc | with_reducible apply Gro.drew | with_reducible apply Gro.drewN))⟩
          case measure => simp [intOf]; omega
        · have HR := Lib.hid (show szRes (left - xs.length - s) n0 = -1 from if_neg (by omega))
          have HQ := Lib.hid (show szRes left (szL szDebug xs) = -1 from if_neg (by have h1 := HX.out; have h2 := HM.out; have h3 := hs.out; have h4 := HN.out; unfold szL; omega))
          go_wp2_with (go_at_call 95; refine (szDebug_l (x := x) (Ty.up _ bx1 (by repeat (first | with_reducible exact Gro.refl _ | with_reducible exact Gro.refl_drew _ _ _ | with_reducible exact Gro.refl_drewN _ _ _ _ | assumption | with_reducible apply Gro.more | with_reducible apply Gro.alloc | with_reducible apply Gro.drew | with_reducible apply Gro.drewN))) (Ty.up _ bx2 (by repeat (first | with_reducible exact Gro.refl _ | with_reducible exact Gro.refl_drew _ _ _ | with_reducible exact Gro.refl_drewN _ _ _ _ | assumption | with_reducible apply Gro.more | with_reducible apply Gro.alloc | with_reducible apply Gro.drew | with_reducible apply Gro.drewN))) (Ty.up _ bx3 (by repeat (first | with_reducible exact Gro.refl _ | with_reducible exact Gro.refl_drew _ _ _ | with_reducible exact Gro.refl_drewN _ _ _ _ | assumption | with_reducible apply Gro.more | with_reducible apply Gro.alloc | with_reducible apply Gro.drew | with_reducible apply Gro.drewN))) (Ty.up _ bx4 (by repeat (first | with_reducible exact Gro.refl _ | with_reducible exact Gro.refl_drew _ _ _ | with_reducible exact Gro.refl_drewN _ _ _ _ | assumption | with_reducible apply Gro.more | with_reducible apply Gro.alloc | with_reducible apply Gro.drew | with_reducible apply Gro.drewN))) (by omega) (by omega)).mono ?_; rw [HN.out, HR.out]; rintro e w1 ⟨rfl, os1, d1, rfl⟩)
          go_ret
          exact ⟨ret_int HQ.out.symm, (by repeat (first | with_reducible exact Gro.refl _ | with_reducible exact Gro.refl_drew _ _ _ | with_reducible exact Gro.refl_drewN _ _ _ _ | assumption | with_reducible apply Gro.more | with_reducible apply Gro.alloc | with_reducible apply Gro.drew | with_reducible apply Gro.drewN))⟩
      · go_wp2
        go_ret
        exact ⟨ret_int (by
          have h3 := hs.out
          rw [szAll szDebug (show j = xs.length by omega)] at h3
          unfold szRes szL
          rw [if_pos (by omega)]
          omega), (by repeat (first | with_reducible exact Gro.refl _ | with_reducible exact Gro.refl_drew _ _ _ | with_reducible exact Gro.refl_drewN _ _ _ _ | assumption | with_reducible apply Gro.more | with_reducible apply Gro.alloc | with_reducible apply Gro.drew | with_reducible apply Gro.drewN))⟩
  · have HR := Lib.hid (show szRes left (szL szDebug xs) = -1 from if_neg (by unfold szL; omega))
    go_enter Try.func64, Try.ntmps64
    go_wp2
    go_ret
    exact ⟨ret_int HR.out.symm, Gro.refl _⟩
set_option maxHeartbeats 8000000 in
set_option maxRecDepth 100000 in
theorem toDebugS_l {xs : List DDebug} {w : World} {v : Value} (hx : (tDebug.sl 101).R w w.heap.size [v] xs) (hn : szL szDebug xs ≤ 1099511627776) :
    Calls Try.prog 66 #[v] w (RetSl tDebug 101 xs w) := by
  obtain ⟨A, c, rfl, h2, h3⟩ := sl_at hx
  obtain ⟨i0, hi, hz0, hz1, hz2⟩ := info_parts toDebugS_info
  have hn1 : xs.length ≤ 1099511627776 := Nat.le_trans (szL_len _ _) hn
  have hmk := run_make_rowN (P := Try.prog) 53 101 i0 _ Try.underlying53 hi hz0 .i64 .i64 xs.length xs.length (Nat.le_refl _) (by rw [hz2]; omega) (by omega)
  rw [hz1] at hmk
  clear hz0 hz1 hz2 hi
  go_enter Try.func66, Try.ntmps66
  go_wp2_with (fail)
  go_loopw [4] (fun i wr => ∃ (j : Nat) (cur : Array Value) (os : Array Obj) (d : Nat) (S' : List Nat), j ≤ xs.length ∧ i = .int .i64 j ∧ Hid (wr = gro (w.alloc (.cells cur 101)) os d) ∧ Hid (Rows tDebug (gro (w.alloc (.cells cur 101)) os d) (cur.toList.take (j * 5)) (xs.take j) S') ∧ Hid (S'.Nodup) ∧ Hid (∀ b ∈ S', w.heap.size + 1 ≤ b) ∧ Hid (cur.size = xs.length * 5)) (fun i _ => xs.length - (intOf i).toNat)
  case atStart => exact ⟨0, _, _, _, [], Nat.zero_le _, rfl, gro_refl, Lib.hid (by simp [Rows]), Lib.hid List.nodup_nil, Lib.hid (by simp), madeCells_size _ _⟩
  case round =>
    obtain ⟨j, cur, os, d, S', hj, rfl, hw, hr, hN, hL, hsz⟩ := hrel
    have hw' := hw.out
    subst hw'
    clear hw hmk
    by_cases hlt : j < xs.length
    · obtain ⟨g, off, x, A0, c0, A1, c1, A2, c2, A3, c3, rfl, hgb, hxk, hx0, hx1, hx2, hx3, hx4, bx0, bx1, bx2, bx3, bx4⟩ := atDebug hx hlt
      have hjs : j * 5 + 4 < cur.size := by have := hsz.out; omega
      have HX := Lib.hid hxk
      have hszx : szDebug x ≤ 1099511627776 := Nat.le_trans (szL_elem szDebug hxk) hn
      clear hxk hx
      go_wp2_with (fail)
      refine (toDebug_l (x := x) bx0 (Ty.up _ bx1 (by repeat (first | with_reducible exact Gro.refl _ | with_reducible exact Gro.refl_drew _ _ _ | with_reducible exact Gro.refl_drewN _ _ _ _ | assumption | with_reducible apply Gro.more | with_reducible apply Gro.alloc | with_reducible apply Gro.drew | with_reducible apply Gro.drewN))) (Ty.up _ bx2 (by repeat (first | with_reducible exact Gro.refl _ | with_reducible exact Gro.refl_drew _ _ _ | with_reducible exact Gro.refl_drewN _ _ _ _ | assumption | with_reducible apply Gro.more | with_reducible apply Gro.alloc | with_reducible apply Gro.drew | with_reducible apply Gro.drewN))) (Ty.up _ bx3 (by repeat (first | with_reducible exact Gro.refl _ | with_reducible exact Gro.refl_drew _ _ _ | with_reducible exact Gro.refl_drewN _ _ _ _ | assumption | with_reducible apply Gro.more | with_reducible apply Gro.alloc | with_reducible apply Gro.drew | with_reducible apply Gro.drewN))) (Ty.up _ bx4 (by repeat (first | with_reducible exact Gro.refl _ | with_reducible exact Gro.refl_drew _ _ _ | with_reducible exact Gro.refl_drewN _ _ _ _ | assumption | with_reducible apply Gro.more | with_reducible apply Gro.alloc | with_reducible apply Gro.drew | with_reducible apply Gro.drewN))) hszx).mono ?_
      rintro e w1 ⟨B0, f0, B1, f1, B2, f2, B3, f3, rfl, hF, os1, d1, rfl⟩
      obtain ⟨o0, ho0⟩ : ∃ u, cur[j * 5]? = some u := ⟨_, Array.getElem?_eq_getElem (by omega)⟩
      obtain ⟨o1, ho1⟩ : ∃ u, (cur.setIfInBounds (j * 5) (.int .i64 x.Id))[j * 5 + 1]? = some u := ⟨_, Array.getElem?_eq_getElem (by simp only [Array.size_setIfInBounds]; omega)⟩
      obtain ⟨o2, ho2⟩ : ∃ u, ((cur.setIfInBounds (j * 5) (.int .i64 x.Id)).setIfInBounds (j * 5 + 1) (.slice B0 x.Symbols.length f0))[j * 5 + 2]? = some u := ⟨_, Array.getElem?_eq_getElem (by simp only [Array.size_setIfInBounds]; omega)⟩
      obtain ⟨o3, ho3⟩ : ∃ u, (((cur.setIfInBounds (j * 5) (.int .i64 x.Id)).setIfInBounds (j * 5 + 1) (.slice B0 x.Symbols.length f0)).setIfInBounds (j * 5 + 2) (.slice B1 x.Rules.length f1))[j * 5 + 3]? = some u := ⟨_, Array.getElem?_eq_getElem (by simp only [Array.size_setIfInBounds]; omega)⟩
      obtain ⟨o4, ho4⟩ : ∃ u, ((((cur.setIfInBounds (j * 5) (.int .i64 x.Id)).setIfInBounds (j * 5 + 1) (.slice B0 x.Symbols.length f0)).setIfInBounds (j * 5 + 2) (.slice B1 x.Rules.length f1)).setIfInBounds (j * 5 + 3) (.slice B2 x.Rows.length f2))[j * 5 + 4]? = some u := ⟨_, Array.getElem?_eq_getElem (by simp only [Array.size_setIfInBounds]; omega)⟩
      go_wp2
      go_roundw
      case rel =>
        rw [gro_gro] at hF
        obtain ⟨S'', h1, h2, h3, h4⟩ := rows_put (T := tDebug) hr.out hN.out hL.out hsz.out hlt HX.out hF (by rw [← gro_gro]; exact Gro.of _ _ _)
        exact ⟨j + 1, _, os ++ os1, d1, S'', by omega, by go_num, gro_gro _ _ _ _, h1, h2, h3, h4⟩
      case measure => simp [intOf]; omega
    · have hje : j = xs.length := by omega
      subst hje
      go_wp2
      go_ret
      exact rows_done hr.out hN.out hL.out hsz.out (Nat.le_refl _) (by omega)
set_option maxHeartbeats 8000000 in
set_option maxRecDepth 100000 in
theorem eqDebugS_l {xs ys : List DDebug} {w : World} {v u : Value} (hx : (tDebug.sl 101).R w w.heap.size [v] xs) (hy : (tDebug.sl 101).R w w.heap.size [u] ys) :
    Calls Try.prog 68 #[v, u] w fun e w' => e = .returned (.bool (decide (xs = ys))) ∧ Gro w w' := by
  obtain ⟨A, c, rfl, h1, h2⟩ := sl_at hx
  obtain ⟨A', c', rfl, k1, k2⟩ := sl_at hy
  by_cases hl : xs.length = ys.length
  · have hne : ((xs.length : Int) != (ys.length : Int)) = false := by simp [hl]
    have HL := Lib.hid hl
    clear hl
    go_enter Try.func68, Try.ntmps68
    go_wp2_with (fail)
    go_loopw [5] (fun i wr => ∃ k : Nat, k ≤ xs.length ∧ i = .int .i64 k ∧ Hid (Gro w wr) ∧ Hid (xs.take k = ys.take k)) (fun i _ => xs.length - (intOf i).toNat)
    case atStart => exact ⟨0, Nat.zero_le _, rfl, Gro.refl _, Lib.hid (by simp)⟩
    case round =>
      obtain ⟨k, hk, rfl, hG, HT⟩ := hrel
      obtain ⟨os, d, rfl⟩ := hG.out
      clear hG
      by_cases hlt : k < xs.length
      · have hlt2 : k < ys.length := by rw [← HL.out]; exact hlt
        obtain ⟨g, off, x, A0, c0, A1, c1, A2, c2, A3, c3, rfl, hgb, hxk, hx0, hx1, hx2, hx3, hx4, bx0, bx1, bx2, bx3, bx4⟩ := atDebug hx hlt
        obtain ⟨g', off', y, B0, e0, B1, e1, B2, e2, B3, e3, rfl, hgb', hyk, hy0, hy1, hy2, hy3, hy4, by0, by1, by2, by3, by4⟩ := atDebug hy hlt2
        have HX := Lib.hid hxk
        have HY := Lib.hid hyk
        clear hxk hyk hx hy
        by_cases hxy : x = y
        · subst hxy
          go_wp2_with (fail)
          go_region_held3 (fun w' => w'.cell? ⟨g, off + k * 5, none⟩ = some (.int .i64 x.Id) ∧ w'.cell? ⟨g, off + k * 5 + 1, none⟩ = some (.slice A0 x.Symbols.length c0) ∧ w'.cell? ⟨g, off + k * 5 + 2, none⟩ = some (.slice A1 x.Rules.length c1) ∧ w'.cell? ⟨g, off + k * 5 + 3, none⟩ = some (.slice A2 x.Rows.length c2) ∧ w'.cell? ⟨g, off + k * 5 + 4, none⟩ = some (.slice A3 x.Inlines.length c3) ∧ w'.cell? ⟨g', off' + k * 5, none⟩ = some (.int .i64 x.Id) ∧ w'.cell? ⟨g', off' + k * 5 + 1, none⟩ = some (.slice B0 x.Symbols.length e0) ∧ w'.cell? ⟨g', off' + k * 5 + 2, none⟩ = some (.slice B1 x.Rules.length e1) ∧ w'.cell? ⟨g', off' + k * 5 + 3, none⟩ = some (.slice B2 x.Rows.length e2) ∧ w'.cell? ⟨g', off' + k * 5 + 4, none⟩ = some (.slice B3 x.Inlines.length e3)) ((repeat' apply And.intro) <;> (first | ((repeat (first | assumption | with_reducible refine gro_keeps ?_ _ _ | with_reducible refine alloc_keeps ?_ _ | with_reducible refine drew_keeps ?_)); done) | (simp [go_sem]; done))) (first
            | (go_at_call 100; refine (eqDebug_l (x := x) (y := x) (Ty.up _ bx1 (by repeat (first | with_reducible exact Gro.refl _ | with_reducible exact Gro.refl_drew _ _ _ | with_reducible exact Gro.refl_drewN _ _ _ _ | assumption | with_reducible apply Gro.more | with_reducible apply Gro.alloc | with_reducible apply Gro.drew | with_reducible apply Gro.drewN))) (Ty.up _ bx2 (by repeat (first | with_reducible exact Gro.refl _ | with_reducible exact Gro.refl_drew _ _ _ | with_reducible exact Gro.refl_drewN _ _ _ _ | assumption | with_reducible apply Gro.more | with_reducible apply Gro.alloc | with_reducible apply Gro.drew | with_reducible apply Gro.drewN))) (Ty.up _ bx3 (by repeat (first | with_reducible exact Gro.refl _ | with_reducible exact Gro.refl_drew _ _ _ | with_reducible exact Gro.refl_drewN _ _ _ _ | assumption | with_reducible apply Gro.more | with_reducible apply Gro.alloc | with_reducible apply Gro.drew | with_reducible apply Gro.drewN))) (Ty.up _ bx4 (by repeat (first | with_reducible exact Gro.refl _ | with_reducible exact Gro.refl_drew _ _ _ | with_reducible exact Gro.refl_drewN _ _ _ _ | assumption | with_reducible apply Gro.more | with_reducible apply Gro.alloc | with_reducible apply Gro.drew | with_reducible apply Gro.drewN))) (Ty.up _ by1 (by repeat (first | with_reducible exact Gro.refl _ | with_reducible exact Gro.refl_drew _ _ _ | with_reducible exact Gro.refl_drewN _ _ _ _ | assumption | with_reducible apply Gro.more | with_reducible apply Gro.alloc | with_reducible apply Gro.drew | with_reducible apply Gro.drewN))) (Ty.up _ by2 (by repeat (first | with_reducible exact Gro.refl _ | with_reducible exact Gro.refl_drew _ _ _ | with_reducible exact Gro.refl_drewN _ _ _ _ | assumption | with_reducible apply Gro.more | with_reducible apply Gro.alloc | with_reducible apply Gro.drew | with_reducible apply Gro.drewN))) (Ty.up _ by3 (by repeat (first | with_reducible exact Gro.refl _ | with_reducible exact Gro.refl_drew _ _ _ | with_reducible exact Gro.refl_drewN _ _ _ _ | assumption | with_reducible apply Gro.more | with_reducible apply Gro.alloc | with_reducible apply Gro.drew | with_reducible apply Gro.drewN))) (Ty.up _ by4 (by repeat (first | with_reducible exact Gro.refl _ | with_reducible exact Gro.refl_drew _ _ _ | with_reducible exact Gro.refl_drewN _ _ _ _ | assumption | with_reducible apply Gro.more | with_reducible apply Gro.alloc | with_reducible apply Gro.drew | with_reducible apply Gro.drewN)))).mono ?_; rintro e w1 ⟨rfl, os1, d1, rfl⟩))
          go_wp2
          go_roundw
          case rel => exact ⟨k + 1, by omega, by go_num, Lib.hid (by repeat (first | with_reducible exact Gro.refl _ | with_reducible exact Gro.refl_drew _ _ _ | with_reducible exact Gro.refl_drewN _ _ _ _ | assumption | with_reducible apply Gro.more | with_reducible apply Gro.alloc | with_reducible apply Gro.drew | with_reducible apply Gro.drewN)), Lib.hid (by rw [take_snoc HX.out, take_snoc HY.out, HT.out])⟩
          case measure => simp [intOf]; omega
        · have HXY := Lib.hid (show decide (x = y) = false from by simp [hxy])
          go_wp2_with (fail)
          go_region_held3 (fun w' => w'.cell? ⟨g, off + k * 5, none⟩ = some (.int .i64 x.Id) ∧ w'.cell? ⟨g, off + k * 5 + 1, none⟩ = some (.slice A0 x.Symbols.length c0) ∧ w'.cell? ⟨g, off + k * 5 + 2, none⟩ = some (.slice A1 x.Rules.length c1) ∧ w'.cell? ⟨g, off + k * 5 + 3, none⟩ = some (.slice A2 x.Rows.length c2) ∧ w'.cell? ⟨g, off + k * 5 + 4, none⟩ = some (.slice A3 x.Inlines.length c3) ∧ w'.cell? ⟨g', off' + k * 5, none⟩ = some (.int .i64 y.Id) ∧ w'.cell? ⟨g', off' + k * 5 + 1, none⟩ = some (.slice B0 y.Symbols.length e0) ∧ w'.cell? ⟨g', off' + k * 5 + 2, none⟩ = some (.slice B1 y.Rules.length e1) ∧ w'.cell? ⟨g', off' + k * 5 + 3, none⟩ = some (.slice B2 y.Rows.length e2) ∧ w'.cell? ⟨g', off' + k * 5 + 4, none⟩ = some (.slice B3 y.Inlines.length e3)) ((repeat' apply And.intro) <;> (first | ((repeat (first | assumption | with_reducible refine gro_keeps ?_ _ _ | with_reducible refine alloc_keeps ?_ _ | with_reducible refine drew_keeps ?_)); done) | (simp [go_sem]; done))) (first
            | (go_at_call 100; refine (eqDebug_l (x := x) (y := y) (Ty.up _ bx1 (by repeat (first | with_reducible exact Gro.refl _ | with_reducible exact Gro.refl_drew _ _ _ | with_reducible exact Gro.refl_drewN _ _ _ _ | assumption | with_reducible apply Gro.more | with_reducible apply Gro.alloc | with_reducible apply Gro.drew | with_reducible apply Gro.drewN))) (Ty.up _ bx2 (by repeat (first | with_reducible exact Gro.refl _ | with_reducible exact Gro.refl_drew _ _ _ | with_reducible exact Gro.refl_drewN _ _ _ _ | assumption | with_reducible apply Gro.more | with_reducible apply Gro.alloc | with_reducible apply Gro.drew | with_reducible apply Gro.drewN))) (Ty.up _ bx3 (by repeat (first | with_reducible exact Gro.refl _ | with_reducible exact Gro.refl_drew _ _ _ | with_reducible exact Gro.refl_drewN _ _ _ _ | assumption | with_reducible apply Gro.more | with_reducible apply Gro.alloc | with_reducible apply Gro.drew | with_reducible apply Gro.drewN))) (Ty.up _ bx4 (by repeat (first | with_reducible exact Gro.refl _ | with_reducible exact Gro.refl_drew _ _ _ | with_reducible exact Gro.refl_drewN _ _ _ _ | assumption | with_reducible apply Gro.more | with_reducible apply Gro.alloc | with_reducible apply Gro.drew | with_reducible apply Gro.drewN))) (Ty.up _ by1 (by repeat (first | with_reducible exact Gro.refl _ | with_reducible exact Gro.refl_drew _ _ _ | with_reducible exact Gro.refl_drewN _ _ _ _ | assumption | with_reducible apply Gro.more | with_reducible apply Gro.alloc | with_reducible apply Gro.drew | with_reducible apply Gro.drewN))) (Ty.up _ by2 (by repeat (first | with_reducible exact Gro.refl _ | with_reducible exact Gro.refl_drew _ _ _ | with_reducible exact Gro.refl_drewN _ _ _ _ | assumption | with_reducible apply Gro.more | with_reducible apply Gro.alloc | with_reducible apply Gro.drew | with_reducible apply Gro.drewN))) (Ty.up _ by3 (by repeat (first | with_reducible exact Gro.refl _ | with_reducible exact Gro.refl_drew _ _ _ | with_reducible exact Gro.refl_drewN _ _ _ _ | assumption | with_reducible apply Gro.more | with_reducible apply Gro.alloc | with_reducible apply Gro.drew | with_reducible apply Gro.drewN))) (Ty.up _ by4 (by repeat (first | with_reducible exact Gro.refl _ | with_reducible exact Gro.refl_drew _ _ _ | with_reducible exact Gro.refl_drewN _ _ _ _ | assumption | with_reducible apply Gro.more | with_reducible apply Gro.alloc | with_reducible apply Gro.drew | with_reducible apply Gro.drewN)))).mono ?_; rw [HXY.out]; rintro e w1 ⟨rfl, os1, d1, rfl⟩))
          go_wp2
          go_ret
          refine ⟨ret_bool ?_, (by repeat (first | with_reducible exact Gro.refl _ | with_reducible exact Gro.refl_drew _ _ _ | with_reducible exact Gro.refl_drewN _ _ _ _ | assumption | with_reducible apply Gro.more | with_reducible apply Gro.alloc | with_reducible apply Gro.drew | with_reducible apply Gro.drewN))⟩
          symm
          simp only [decide_eq_false_iff_not]
          rintro rfl
          exact hxy (Option.some.inj (HX.out.symm.trans HY.out))
      · go_wp2
        go_ret
        refine ⟨ret_bool ?_, (by repeat (first | with_reducible exact Gro.refl _ | with_reducible exact Gro.refl_drew _ _ _ | with_reducible exact Gro.refl_drewN _ _ _ _ | assumption | with_reducible apply Gro.more | with_reducible apply Gro.alloc | with_reducible apply Gro.drew | with_reducible apply Gro.drewN))⟩
        have : k = xs.length := by omega
        subst this
        have h1 := HT.out
        rw [HL.out] at h1
        simp only [List.take_length] at h1
        rw [← HL.out] at h1
        simp at h1
        simp [h1]
  · have hne : ((xs.length : Int) != (ys.length : Int)) = true := by simp; omega
    go_enter Try.func68, Try.ntmps68
    go_wp2
    go_ret
    exact ⟨ret_bool (by symm; simp only [decide_eq_false_iff_not]; rintro rfl; exact hl rfl), Gro.refl _⟩
end Go.Proofs.Ytbhobjepjaeffaa
