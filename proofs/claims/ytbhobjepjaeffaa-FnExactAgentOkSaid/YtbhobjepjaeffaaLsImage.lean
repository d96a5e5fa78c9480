/-
  LISTS OF STRUCTS THAT HOLD SCALARS AND SLICES, written by a program (genmix.py): Image: the laws' own toXS, szXS, eqXS, markXS, heldXS.
-/
import Derived.Test.YtbhobjepjaeffaaMix
import Derived.Test.YtbhobjepjaeffaaFnImage
import Derived.Deep.RegionHeld3
set_option linter.unusedVariables false
set_option linter.unusedSimpArgs false
namespace Go.Proofs.Ytbhobjepjaeffaa
open Go.RowKit
theorem atImage {e : TypeId} {w : World} {B : Nat} {A : Option Addr} {n c : Nat} {xs : List DImage} (h : (tImage.sl e).R w B [.slice A n c] xs) {k : Nat} (hk : k < xs.length) :
    ∃ g off x A0 c0, A = some ⟨g, off, none⟩ ∧ g < B ∧ xs[k]? = some x ∧ w.cell? ⟨g, off + k * 2, none⟩ = some (.string x.Code) ∧ w.cell? ⟨g, off + k * 2 + 1, none⟩ = some (.slice A0 x.Symbols.length c0) ∧ x.Code.size ≤ 9223372036854775807 ∧ (tSymbol.sl 118).R w B [.slice A0 x.Symbols.length c0] x.Symbols := by
  obtain ⟨g, off, x, ec, h1, hB, h2, h3, h4⟩ := elem_at h hk
  obtain ⟨A0, c0, rfl, hf⟩ := tImage_R h3
  exact ⟨g, off, x, A0, c0, h1, hB, h2, h4 0 _ rfl, h4 1 _ rfl, hf⟩
def mkEImage (x : DImage) (k : Int) : DImage := ⟨markTx k, mkSymbolS x.Symbols (k + 1)⟩
def cntEImage (x : DImage) : Nat := 1 + cntSymbolS x.Symbols
def mkImageS (xs : List DImage) (k : Int) : List DImage := mkL mkEImage cntEImage xs k
def cntImageS (xs : List DImage) : Nat := cntL cntEImage xs
theorem mkImageS_length (xs : List DImage) (k : Int) : (mkImageS xs k).length = xs.length := mkL_length _ _
theorem cntEImage_eq (x : DImage) : cntEImage x = 1 + cntSymbolS x.Symbols := rfl
theorem toImageS_info : (Try.prog.info? 96).map (fun i => (i.zero, i.size, i.bytes)) = some (some (.agg #[.string ⟨#[]⟩, .slice none 0 0]), 2, 40) := by kernel_rfl
theorem elImage : Elem Try.prog 31 96 tImage 40 := by
  obtain ⟨i0, hi, hz0, hz1, hz2⟩ := info_parts toImageS_info
  exact ⟨Try.underlying31, ⟨i0, _, hi, hz0, hz1, hz2, rfl⟩, by decide⟩
set_option maxRecDepth 100000 in
theorem szImageS_l {xs : List DImage} {w : World} {v : Value} {left : Int} (hx : (tImage.sl 96).R w w.heap.size [v] xs) (h0 : 0 ≤ left) (h1 : left ≤ 1099511627776) :
    Calls Try.prog 51 #[v, .int .i64 left] w fun e w' => e = .returned (.int .i64 (szRes left (szL szImage xs))) ∧ Gro w w' := by
  obtain ⟨A, c, rfl, h2, h3⟩ := sl_at hx
  by_cases h : (xs.length : Int) ≤ left
  · go_enter Try.func51, Try.ntmps51
    go_wp2_with (fail)
    go_loopw [1, 5] (fun a i wr => ∃ (j s : Nat), j ≤ xs.length ∧ Hid (s = ((xs.take j).map szImage).sum) ∧ (xs.length : Int) + s ≤ left ∧ a = .int .i64 (left - xs.length - s) ∧ i = .int .i64 j ∧ Hid (Gro w wr)) (fun _ i _ => xs.length - (intOf i).toNat)
    case atStart => exact ⟨0, 0, Nat.zero_le _, rfl, by omega, by simp, rfl, Gro.refl _⟩
    case round =>
      obtain ⟨j, s, hj, hs, hle, rfl, rfl, hG⟩ := hrel
      obtain ⟨os, d, rfl⟩ := hG.out
      clear hG
      by_cases hlt : j < xs.length
      · obtain ⟨g, off, x, A0, c0, rfl, hgb, hxk, hx0, hx1, bx0, bx1⟩ := atImage hx hlt
        have HX := Lib.hid (szSnoc szImage hxk)
        have HM := Lib.hid (szLe szImage xs (j + 1))
        obtain ⟨n0, hn0⟩ : ∃ n, szImage x = n := ⟨_, rfl⟩
        have HN := Lib.hid hn0
        clear hxk hx hn0
        by_cases hsz : (xs.length : Int) + s + n0 ≤ left
        · have HR := Lib.hid (show szRes (left - xs.length - s) n0 = left - xs.length - s - n0 from if_pos (by omega))
          go_wp2_with (go_at_call 88; refine (szImage_l (x := x) bx0 (Ty.up _ bx1 (by repeat (first | with_reducible exact Gro.refl _ | with_reducible exact Gro.refl_drew _ _ _ | with_reducible exact Gro.refl_drewN _ _ _ _ | assumption | with_reducible apply Gro.more | with_reducible apply Gro.alloc | with_reducible apply Gro.drew | with_reducible apply Gro.drewN))) (by omega) (by omega)).mono ?_; rw [HN.out, HR.out]; rintro e w1 ⟨rfl, os1, d1, rfl⟩)
          go_roundw
          case rel => exact ⟨j + 1, s + n0, by omega, Lib.hid (by rw [hs.out, HX.out, HN.out]), by omega, by go_num, by go_num, Lib.hid (by repeat (first | with_reducible exact Gro.refl _ | with_reducible exact Gro.refl_drew _ _ _ | with_reducible exact Gro.refl_drewN _ _ _ _ | assumption | with_reducible apply Gro.more | with_reducible apply Gro.alloc | with_reducible apply Gro.drew | with_reducible apply Gro.drewN))⟩
          case measure => simp [intOf]; omega
        · have HR := Lib.hid (show szRes (left - xs.length - s) n0 = -1 from if_neg (by omega))
          have HQ := Lib.hid (show szRes left (szL szImage xs) = -1 from if_neg (by have h1 := HX.out; have h2 := HM.out; have h3 := hs.out; have h4 := HN.out; unfold szL; omega))
          go_wp2_with (go_at_call 88; refine (szImage_l (x := x) bx0 (Ty.up _ bx1 (by repeat (first | with_reducible exact Gro.refl _ | with_reducible exact Gro.refl_drew _ _ _ | with_reducible exact Gro.refl_drewN _ _ _ _ | assumption | with_reducible apply Gro.more | with_reducible apply Gro.alloc | with_reducible apply Gro.drew | with_reducible apply Gro.drewN))) (by omega) (by omega)).mono ?_; rw [HN.out, HR.out]; rintro e w1 ⟨rfl, os1, d1, rfl⟩)
          go_ret
          exact ⟨ret_int HQ.out.symm, (by repeat (first | with_reducible exact Gro.refl _ | with_reducible exact Gro.refl_drew _ _ _ | with_reducible exact Gro.refl_drewN _ _ _ _ | assumption | with_reducible apply Gro.more | with_reducible apply Gro.alloc | with_reducible apply Gro.drew | with_reducible apply Gro.drewN))⟩
      · go_wp2
        go_ret
        exact ⟨ret_int (by
          have h3 := hs.out
          rw [szAll szImage (show j = xs.length by omega)] at h3
          unfold szRes szL
          rw [if_pos (by omega)]
          omega), (by repeat (first | with_reducible exact Gro.refl _ | with_reducible exact Gro.refl_drew _ _ _ | with_reducible exact Gro.refl_drewN _ _ _ _ | assumption | with_reducible apply Gro.more | with_reducible apply Gro.alloc | with_reducible apply Gro.drew | with_reducible apply Gro.drewN))⟩
  · have HR := Lib.hid (show szRes left (szL szImage xs) = -1 from if_neg (by unfold szL; omega))
    go_enter Try.func51, Try.ntmps51
    go_wp2
    go_ret
    exact ⟨ret_int HR.out.symm, Gro.refl _⟩
set_option maxHeartbeats 8000000 in
set_option maxRecDepth 100000 in
theorem toImageS_l {xs : List DImage} {w : World} {v : Value} (hx : (tImage.sl 96).R w w.heap.size [v] xs) (hn : szL szImage xs ≤ 1099511627776) :
    Calls Try.prog 55 #[v] w (RetSl tImage 96 xs w) := by
  obtain ⟨A, c, rfl, h2, h3⟩ := sl_at hx
  obtain ⟨i0, hi, hz0, hz1, hz2⟩ := info_parts toImageS_info
  have hn1 : xs.length ≤ 1099511627776 := Nat.le_trans (szL_len _ _) hn
  have hmk := run_make_rowN (P := Try.prog) 31 96 i0 _ Try.underlying31 hi hz0 .i64 .i64 xs.length xs.length (Nat.le_refl _) (by rw [hz2]; omega) (by omega)
  rw [hz1] at hmk
  clear hz0 hz1 hz2 hi
  go_enter Try.func55, Try.ntmps55
  go_wp2_with (fail)
  go_loopw [4] (fun i wr => ∃ (j : Nat) (cur : Array Value) (os : Array Obj) (d : Nat) (S' : List Nat), j ≤ xs.length ∧ i = .int .i64 j ∧ Hid (wr = gro (w.alloc (.cells cur 96)) os d) ∧ Hid (Rows tImage (gro (w.alloc (.cells cur 96)) os d) (cur.toList.take (j * 2)) (xs.take j) S') ∧ Hid (S'.Nodup) ∧ Hid (∀ b ∈ S', w.heap.size + 1 ≤ b) ∧ Hid (cur.size = xs.length * 2)) (fun i _ => xs.length - (intOf i).toNat)
  case atStart => exact ⟨0, _, _, _, [], Nat.zero_le _, rfl, gro_refl, Lib.hid (by simp [Rows]), Lib.hid List.nodup_nil, Lib.hid (by simp), madeCells_size _ _⟩
  case round =>
    obtain ⟨j, cur, os, d, S', hj, rfl, hw, hr, hN, hL, hsz⟩ := hrel
    have hw' := hw.out
    subst hw'
    clear hw hmk
    by_cases hlt : j < xs.length
    · obtain ⟨g, off, x, A0, c0, rfl, hgb, hxk, hx0, hx1, bx0, bx1⟩ := atImage hx hlt
      have hjs : j * 2 + 1 < cur.size := by have := hsz.out; omega
      have HX := Lib.hid hxk
      have hszx : szImage x ≤ 1099511627776 := Nat.le_trans (szL_elem szImage hxk) hn
      clear hxk hx
      go_wp2_with (fail)
      refine (toImage_l (x := x) bx0 (Ty.up _ bx1 (by repeat (first | with_reducible exact Gro.refl _ | with_reducible exact Gro.refl_drew _ _ _ | with_reducible exact Gro.refl_drewN _ _ _ _ | assumption | with_reducible apply Gro.more | with_reducible apply Gro.alloc | with_reducible apply Gro.drew | with_reducible apply Gro.drewN))) hszx).mono ?_
      rintro e w1 ⟨B0, f0, rfl, hF, os1, d1, rfl⟩
      obtain ⟨o0, ho0⟩ : ∃ u, cur[j * 2]? = some u := ⟨_, Array.getElem?_eq_getElem (by omega)⟩
      obtain ⟨o1, ho1⟩ : ∃ u, (cur.setIfInBounds (j * 2) (.string x.Code))[j * 2 + 1]? = some u := ⟨_, Array.getElem?_eq_getElem (by simp only [Array.size_setIfInBounds]; omega)⟩
      go_wp2
      go_roundw
      case rel =>
        rw [gro_gro] at hF
        obtain ⟨S'', h1, h2, h3, h4⟩ := rows_put (T := tImage) hr.out hN.out hL.out hsz.out hlt HX.out hF (by rw [← gro_gro]; exact Gro.of _ _ _)
        exact ⟨j + 1, _, os ++ os1, d1, S'', by omega, by go_num, gro_gro _ _ _ _, h1, h2, h3, h4⟩
      case measure => simp [intOf]; omega
    · have hje : j = xs.length := by omega
      subst hje
      go_wp2
      go_ret
      exact rows_done hr.out hN.out hL.out hsz.out (Nat.le_refl _) (by omega)
set_option maxHeartbeats 8000000 in
set_option maxRecDepth 100000 in
theorem eqImageS_l {xs ys : List DImage} {w : World} {v u : Value} (hx : (tImage.sl 96).R w w.heap.size [v] xs) (hy : (tImage.sl 96).R w w.heap.size [u] ys) :
    Calls Try.prog 59 #[v, u] w fun e w' => e = .returned (.bool (decide (xs = ys))) ∧ Gro w w' := by
  obtain ⟨A, c, rfl, h1, h2⟩ := sl_at hx
  obtain ⟨A', c', rfl, k1, k2⟩ := sl_at hy
  by_cases hl : xs.length = ys.length
  · have hne : ((xs.length : Int) != (ys.length : Int)) = false := by simp [hl]
    have HL := Lib.hid hl
    clear hl
    go_enter Try.func59, Try.ntmps59
    go_wp2_with (fail)
    go_loopw [5] (fun i wr => ∃ k : Nat, k ≤ xs.length ∧ i = .int .i64 k ∧ Hid (Gro w wr) ∧ Hid (xs.take k = ys.take k)) (fun i _ => xs.length - (intOf i).toNat)
    case atStart => exact ⟨0, Nat.zero_le _, rfl, Gro.refl _, Lib.hid (by simp)⟩
    case round =>
      obtain ⟨k, hk, rfl, hG, HT⟩ := hrel
      obtain ⟨os, d, rfl⟩ := hG.out
      clear hG
      by_cases hlt : k < xs.length
      · have hlt2 : k < ys.length := by rw [← HL.out]; exact hlt
        obtain ⟨g, off, x, A0, c0, rfl, hgb, hxk, hx0, hx1, bx0, bx1⟩ := atImage hx hlt
        obtain ⟨g', off', y, B0, e0, rfl, hgb', hyk, hy0, hy1, by0, by1⟩ := atImage hy hlt2
        have HX := Lib.hid hxk
        have HY := Lib.hid hyk
        clear hxk hyk hx hy
        by_cases hxy : x = y
        · subst hxy
          go_wp2_with (fail)
          go_region_held3 (fun w' => w'.cell? ⟨g, off + k * 2, none⟩ = some (.string x.Code) ∧ w'.cell? ⟨g, off + k * 2 + 1, none⟩ = some (.slice A0 x.Symbols.length c0) ∧ w'.cell? ⟨g', off' + k * 2, none⟩ = some (.string x.Code) ∧ w'.cell? ⟨g', off' + k * 2 + 1, none⟩ = some (.slice B0 x.Symbols.length e0)) ((repeat' apply And.intro) <;> (first | ((repeat (first | assumption | with_reducible refine gro_keeps ?_ _ _ | with_reducible refine alloc_keeps ?_ _ | with_reducible refine drew_keeps ?_)); done) | (simp [go_sem]; done))) (first
            | (go_at_call 91; refine (eqImage_l (x := x) (y := x) (Ty.up _ bx1 (by repeat (first | with_reducible exact Gro.refl _ | with_reducible exact Gro.refl_drew _ _ _ | with_reducible exact Gro.refl_drewN _ _ _ _ | assumption | with_reducible apply Gro.more | with_reducible apply Gro.alloc | with_reducible apply Gro.drew | with_reducible apply Gro.drewN))) (Ty.up _ by1 (by repeat (first | with_reducible exact Gro.refl _ | with_reducible exact Gro.refl_drew _ _ _ | with_reducible exact Gro.refl_drewN _ _ _ _ | assumption | with_reducible apply Gro.more | with_reducible apply Gro.alloc | with_reducible apply Gro.drew | with_reducible apply Gro.drewN)))).mono ?_; rintro e w1 ⟨rfl, os1, d1, rfl⟩))
          go_wp2
          go_roundw
          case rel => exact ⟨k + 1, by omega, by go_num, Lib.hid (by repeat (first | with_reducible exact Gro.refl _ | with_reducible exact Gro.refl_drew _ _ _ | with_reducible exact Gro.refl_drewN _ _ _ _ | assumption | with_reducible apply Gro.more | with_reducible apply Gro.alloc | with_reducible apply Gro.drew | with_reducible apply Gro.drewN)), Lib.hid (by rw [take_snoc HX.out, take_snoc HY.out, HT.out])⟩
          case measure => simp [intOf]; omega
        · have HXY := Lib.hid (show decide (x = y) = false from by simp [hxy])
          go_wp2_with (fail)
          go_region_held3 (fun w' => w'.cell? ⟨g, off + k * 2, none⟩ = some (.string x.Code) ∧ w'.cell? ⟨g, off + k * 2 + 1, none⟩ = some (.slice A0 x.Symbols.length c0) ∧ w'.cell? ⟨g', off' + k * 2, none⟩ = some (.string y.Code) ∧ w'.cell? ⟨g', off' + k * 2 + 1, none⟩ = some (.slice B0 y.Symbols.length e0)) ((repeat' apply And.intro) <;> (first | ((repeat (first | assumption | with_reducible refine gro_keeps ?_ _ _ | with_reducible refine alloc_keeps ?_ _ | with_reducible refine drew_keeps ?_)); done) | (simp [go_sem]; done))) (first
            | (go_at_call 91; refine (eqImage_l (x := x) (y := y) (Ty.up _ bx1 (by repeat (first | with_reducible exact Gro.refl _ | with_reducible exact Gro.refl_drew _ _ _ | with_reducible exact Gro.refl_drewN _ _ _ _ | assumption | with_reducible apply Gro.more | with_reducible apply Gro.alloc | with_reducible apply Gro.drew | with_reducible apply Gro.drewN))) (Ty.up _ by1 (by repeat (first | with_reducible exact Gro.refl _ | with_reducible exact Gro.refl_drew _ _ _ | with_reducible exact Gro.refl_drewN _ _ _ _ | assumption | with_reducible apply Gro.more | with_reducible apply Gro.alloc | with_reducible apply Gro.drew | with_reducible apply Gro.drewN)))).mono ?_; rw [HXY.out]; rintro e w1 ⟨rfl, os1, d1, rfl⟩))
          go_wp2
          go_ret
          refine ⟨ret_bool ?_, (by repeat (first | with_reducible exact Gro.refl _ | with_reducible exact Gro.refl_drew _ _ _ | with_reducible exact Gro.refl_drewN _ _ _ _ | assumption | with_reducible apply Gro.more | with_reducible apply Gro.alloc | with_reducible apply Gro.drew | with_reducible apply Gro.drewN))⟩
          symm
          simp only [decide_eq_false_iff_not]
          rintro rfl
          exact hxy (Option.some.inj (HX.out.symm.trans HY.out))
      · go_wp2
        go_ret
        refine ⟨ret_bool ?_, (by repeat (first | with_reducible exact Gro.refl _ | with_reducible exact Gro.refl_drew _ _ _ | with_reducible exact Gro.refl_drewN _ _ _ _ | assumption | with_reducible apply Gro.more | with_reducible apply Gro.alloc | with_reducible apply Gro.drew | with_reducible apply Gro.drewN))⟩
        have : k = xs.length := by omega
        subst this
        have h1 := HT.out
        rw [HL.out] at h1
        simp only [List.take_length] at h1
        rw [← HL.out] at h1
        simp at h1
        simp [h1]
  · have hne : ((xs.length : Int) != (ys.length : Int)) = true := by simp; omega
    go_enter Try.func59, Try.ntmps59
    go_wp2
    go_ret
    exact ⟨ret_bool (by symm; simp only [decide_eq_false_iff_not]; rintro rfl; exact hl rfl), Gro.refl _⟩
set_option maxRecDepth 100000 in
set_option maxHeartbeats 4000000 in
theorem markImageS_l {xs : List DImage} {w : World} {A : Option Addr} {n c : Nat} {k : Int} {S : List Nat} (hO : (tImage.sl 96).O w [.slice A n c] xs S) (hS : S.Nodup) (h0 : 0 < k) (h1 : k + (cntImageS xs : Nat) ≤ 1099511627776) :
    Calls Try.prog 60 #[.slice A n c, .int .i64 k] w fun e w' => e = .returned (.int .i64 (k + (cntImageS xs : Nat))) ∧ (tImage.sl 96).O w' [.slice A n c] (mkImageS xs k) S ∧ OnlyS S w w' := by
  obtain ⟨_, _, hx, h2, h3⟩ := sl_at (Ty.read _ hO)
  injection hx with hA hn hc
  subst hA hn hc
  have h3c := h3
  clear h3
  unfold cntImageS at h1 ⊢
  go_enter Try.func60, Try.ntmps60
  go_wp2_with (fail)
  go_loopw [1, 5] (fun a i wr => ∃ (j q : Nat), j ≤ xs.length ∧ a = .int .i64 (k + q) ∧ i = .int .i64 j ∧ Hid (cntL cntEImage (xs.take j) = q) ∧ Hid ((tImage.sl 96).O wr [.slice A xs.length c] (mkTo mkEImage cntEImage xs k j) S) ∧ Hid (OnlyS S w wr)) (fun _ i _ => xs.length - (intOf i).toNat)
  case atStart => exact ⟨0, 0, Nat.zero_le _, by simp, rfl, Lib.hid (by simp [cntL]), Lib.hid (by rw [mkTo_zero]; exact hO), OnlyS.refl _ _⟩
  case round =>
    obtain ⟨j, q, hj, rfl, rfl, hq, ho, hs⟩ := hrel
    by_cases hlt : j < xs.length
    · have hxj : xs[j]? = some xs[j] := List.getElem?_eq_getElem hlt
      obtain ⟨g, ec, Sc, cur, rfl, hgS, hgl, hgc, hSc, hNc, hO1, hb, hcs, hcell, hset⟩ := own_mix ho.out hS (mkTo_get hxj k)
      generalize hxe : xs[j] = x at hxj hO1
      clear hxe
      have hqs : q + cntEImage x ≤ cntL cntEImage xs := by
        have := cntL_snoc (cnt := cntEImage) hxj
        have h9 := cntL_take_le (cnt := cntEImage) xs (j + 1)
        have := hq.out
        omega
      have hq2 := Lib.hid (show cntL cntEImage (xs.take (j + 1)) = q + cntEImage x from by rw [cntL_snoc hxj, hq.out])
      rw [cntEImage_eq] at hqs
      obtain ⟨A0, c0, S0, hcl, hSS, _, hO0⟩ := tImage_O hO1
      subst hcl
      have hSS' := hSS.symm
      subst hSS'
      have hr0 := hcell 0 _ rfl
      have hr1 := hcell 1 _ rfl
      simp only [Nat.add_zero, show tImage.size = 2 from rfl] at hcs hset hr0 hr1
      have hc0 : wr.cell? ⟨g, j * 2, none⟩ = some (.string x.Code) := (cell_of_row wr g _ cur _ (0, 0) hb).trans hr0
      have hc1 : wr.cell? ⟨g, j * 2 + 1, none⟩ = some (.slice A0 x.Symbols.length c0) := (cell_of_row wr g _ cur _ (0, 0) hb).trans hr1
      have hf0 := frz_blk hb (j * 2)
      have hf1 := frz_blk hb (j * 2 + 1)
      have HX := Lib.hid hxj
      have HS := Lib.hid hset
      have hN0 := hNc
      clear hcell hset hxj hO hO1
      have hL0 := Ty.ltO _ hO0
      have hg0 : g ∉ S0 := fun hm => hgc (by simp [hm])
      go_wp2_with (first | (go_at_call 92; refine (markText_l _ (by omega) (by omega) _).mono ?_; rintro e w9 ⟨rfl, os, d, rfl⟩))
      refine (markSymbolS_l (xs := x.Symbols) (keepS _ hO0 (((OnlyS.refl [g] wr).setCell (p := ⟨g, _, none⟩) (by simp) _).trans ((Gro.of _ _ _).only _)) (not_one hg0)) hN0 (by omega) (by omega)).mono ?_
      rintro e w1 ⟨rfl, hM0, hs1⟩
      have hb1 : w1.heap[g]? = some (.cells (cur.setIfInBounds (j * 2) (.string (markTx (k + (q : Int))))) _ (0, 0)) := (hs1.block g (Nat.lt_of_lt_of_le hgl ((((OnlyS.refl [g] wr).setCell (p := ⟨g, _, none⟩) (by simp) _).trans ((Gro.of _ _ _).only _))).size) hg0).trans (grow_blk (heap_setCell_at hb _ _) (Gro.of _ _ _))
      have hon1 : OnlyS ([g] ++ S0) wr w1 := ((((OnlyS.refl [g] wr).setCell (p := ⟨g, _, none⟩) (by simp) _).trans ((Gro.of _ _ _).only _)).mono (fun b hb => by simp at hb; simp [hb])).trans (hs1.mono (fun b hb => by simp [hb]))
      obtain ⟨cur1, he1⟩ : ∃ c, (cur.setIfInBounds (j * 2) (.string (markTx (k + (q : Int))))) = c := ⟨_, rfl⟩
      rw [he1] at hb1
      have hr1_0 : cur1[j * 2]? = some (.string (markTx (k + (q : Int)))) := by rw [← he1]; exact Array.getElem?_setIfInBounds_self_of_lt (by (try simp only [Array.size_setIfInBounds]); omega)
      have hc1_0 : w1.cell? ⟨g, j * 2, none⟩ = some (.string (markTx (k + (q : Int)))) := (cell_of_row w1 g _ cur1 _ (0, 0) hb1).trans hr1_0
      have hf1_0 := frz_blk hb1 (j * 2)
      have hr1_1 : cur1[j * 2 + 1]? = some (.slice A0 x.Symbols.length c0) := by rw [← he1]; rw [Array.getElem?_setIfInBounds_ne (by omega)]; exact hr1
      have hc1_1 : w1.cell? ⟨g, j * 2 + 1, none⟩ = some (.slice A0 x.Symbols.length c0) := (cell_of_row w1 g _ cur1 _ (0, 0) hb1).trans hr1_1
      have hf1_1 := frz_blk hb1 (j * 2 + 1)
      have hz1 : cur1.size = cur.size := by (first | (rw [← he1]; done) | (rw [← he1]; simp only [Array.size_setIfInBounds]))
      have ho1 : ∀ i, i < j * 2 ∨ j * 2 + 2 ≤ i → cur1[i]? = cur[i]? := fun i hi => by rw [← he1]; rw [Array.getElem?_setIfInBounds_ne (by omega)]
      have HE1 := Lib.hid he1
      clear he1
      have hgl1 : g < w1.heap.size := Nat.lt_of_lt_of_le hgl hon1.size
      clear hc0 hf0 hc1 hf1
      go_wp2_with (first | (go_at_call 92; refine (markText_l _ (by omega) (by omega) _).mono ?_; rintro e w9 ⟨rfl, os, d, rfl⟩))
      go_roundw
      case rel =>
        have e := mkTo_set (mk := mkEImage) (cnt := cntEImage) HX.out k
        rw [hq.out] at e
        refine ⟨j + 1, q + cntEImage x, by omega, ?_, by go_num, hq2, Lib.hid ?_, Lib.hid ?_⟩
        · exact congrArg (Value.int .i64) (by rw [cntEImage_eq]; push_cast; omega)
        · rw [← e]
          have hOO : ∀ W, OnlyS [g] w1 W → tImage.O W [.string (markTx (k + (q : Int))), .slice A0 x.Symbols.length c0] (mkEImage x (k + (q : Int))) (S0) := fun W hW => by
            have h := (tImage_mkOd (x := (mkEImage x (k + (q : Int)))) (markTx_size _ (by omega) (by omega)) (keepS _ (by simpa [mkEImage, mkSymbolS_length] using hM0) hW (not_one hg0)))
            simpa [mkEImage, mkSymbolS_length] using h
          refine HS.out _ _ _ _ (hOO _ (OnlyS.refl [g] w1)) hb1 ?_ ?_ ?_ ?_
          · simp only [Array.size_setIfInBounds, hz1]
          · intro i hi
            rw [ho1 i hi]
          · intro t u hu
            exact match t, hu with
            | 0, hu => by
              cases hu
              exact hr1_0
            | 1, hu => by
              cases hu
              exact hr1_1
            | t + 2, hu => by simp at hu
          · exact ((hon1.mono (fun b hb => by simp at hb ⊢; rcases hb with h | h <;> simp [h])).trans ((OnlyS.refl [g] w1).mono (fun b hb => by simp at hb; simp [hb])))
        · exact hs.out.trans ((((hon1.mono (fun b hb => by simp at hb ⊢; rcases hb with h | h <;> simp [h])).trans ((OnlyS.refl [g] w1).mono (fun b hb => by simp at hb; simp [hb]))) : OnlyS (g :: (S0)) wr _).mono (fun b hb => by
            rcases List.mem_cons.1 hb with rfl | hb
            · exact hgS
            · exact hSc b (by simpa using hb)))
      case measure => simp [intOf]; omega
    · go_wp2
      have : j = xs.length := by omega
      subst this
      have ho' := ho.out
      rw [mkTo_all] at ho'
      have hq' := hq.out
      rw [List.take_length] at hq'
      go_ret
      exact ⟨ret_int (by rw [hq']), ho', hs.out⟩
set_option maxRecDepth 100000 in
set_option maxHeartbeats 4000000 in
theorem heldImageS_l {xs : List DImage} {w : World} {v : Value} {k : Int} (hx : (tImage.sl 96).R w w.heap.size [v] (mkImageS xs k)) (h0 : 0 < k) (h1 : k + (cntImageS xs : Nat) ≤ 1099511627776) :
    Calls Try.prog 94 #[v, .int .i64 k] w fun e w' => e = .returned (.int .i64 (k + (cntImageS xs : Nat))) ∧ Gro w w' := by
  obtain ⟨A, c, rfl, h2, h3⟩ := sl_at hx
  have hlen : (mkImageS xs k).length = xs.length := mkL_length _ _
  rw [hlen] at h2 hx ⊢
  have HL := Lib.hid hlen
  clear hlen
  unfold cntImageS at h1 ⊢
  go_enter Try.func94, Try.ntmps94
  go_wp2_with (fail)
  go_loopw [1, 5] (fun a i wr => ∃ (j q : Nat), j ≤ xs.length ∧ a = .int .i64 (k + q) ∧ i = .int .i64 j ∧ Hid (cntL cntEImage (xs.take j) = q) ∧ Hid (Gro w wr)) (fun _ i _ => xs.length - (intOf i).toNat)
  case atStart => exact ⟨0, 0, Nat.zero_le _, by simp, rfl, Lib.hid (by simp [cntL]), Lib.hid (Gro.refl _)⟩
  case round =>
    obtain ⟨j, q, hj, rfl, rfl, hq, hG⟩ := hrel
    obtain ⟨os, d, rfl⟩ := hG.out
    clear hG
    by_cases hlt : j < xs.length
    · obtain ⟨g, off, y, A0, c0, rfl, hgb, hxk, hx0, hx1, bx0, bx1⟩ := atImage hx (k := j) (by rw [HL.out]; exact hlt)
      have hxj : xs[j]? = some xs[j] := List.getElem?_eq_getElem hlt
      generalize hxe : xs[j] = x at hxj
      clear hxe
      have hye : y = mkEImage x (k + (q : Int)) := by
        have := mkL_get (mk := mkEImage) (cnt := cntEImage) hxj k
        rw [hq.out] at this
        exact Option.some.inj (hxk.symm.trans this)
      have hqs : q + cntEImage x ≤ cntL cntEImage xs := by
        have := cntL_snoc (cnt := cntEImage) hxj
        have h9 := cntL_take_le (cnt := cntEImage) xs (j + 1)
        have := hq.out
        omega
      have hq2 := Lib.hid (show cntL cntEImage (xs.take (j + 1)) = q + cntEImage x from by rw [cntL_snoc hxj, hq.out])
      rw [cntEImage_eq] at hqs
      clear hxk hx hxj
      subst hye
      simp only [mkEImage, mkSymbolS_length] at hx0 hx1 bx1
      go_wp2_with (fail)
      go_region_held3 (fun w' => w'.cell? ⟨g, off + j * 2, none⟩ = some (.string (markTx (k + (q : Int))))) ((repeat' apply And.intro) <;> (first | ((repeat (first | assumption | with_reducible refine gro_keeps ?_ _ _ | with_reducible refine alloc_keeps ?_ _ | with_reducible refine drew_keeps ?_)); done) | (simp [go_sem]; done))) (first
        | (go_at_call 92; refine (markText_l _ (by omega) (by omega) _).mono ?_; rintro e w1 ⟨rfl, os1, d1, rfl⟩))
      go_wp2_with (fail)
      refine (heldSymbolS_l (xs := x.Symbols) (Ty.up _ bx1 (by repeat (first | with_reducible exact Gro.refl _ | with_reducible exact Gro.refl_drew _ _ _ | with_reducible exact Gro.refl_drewN _ _ _ _ | assumption | with_reducible apply Gro.more | with_reducible apply Gro.alloc | with_reducible apply Gro.drew | with_reducible apply Gro.drewN))) (by omega) (by omega)).mono ?_
      rintro e w2 ⟨rfl, os2, d2, rfl⟩
      go_wp2_with (fail)
      go_roundw
      case rel =>
        refine ⟨j + 1, q + cntEImage x, by omega, ?_, by go_num, hq2, Lib.hid (by repeat (first | with_reducible exact Gro.refl _ | with_reducible exact Gro.refl_drew _ _ _ | with_reducible exact Gro.refl_drewN _ _ _ _ | assumption | with_reducible apply Gro.more | with_reducible apply Gro.alloc | with_reducible apply Gro.drew | with_reducible apply Gro.drewN))⟩
        exact congrArg (Value.int .i64) (by rw [cntEImage_eq]; push_cast; omega)
      case measure => simp [intOf]; omega
    · go_wp2
      have : j = xs.length := by omega
      subst this
      have hq' := hq.out
      rw [List.take_length] at hq'
      go_ret
      exact ⟨ret_int (by rw [hq']), (by repeat (first | with_reducible exact Gro.refl _ | with_reducible exact Gro.refl_drew _ _ _ | with_reducible exact Gro.refl_drewN _ _ _ _ | assumption | with_reducible apply Gro.more | with_reducible apply Gro.alloc | with_reducible apply Gro.drew | with_reducible apply Gro.drewN))⟩
end Go.Proofs.Ytbhobjepjaeffaa
