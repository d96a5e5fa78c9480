/-
  PART 2 of the texts of this claim, one behind the other: contracts and laws that the last part uses.
-/
import Derived.Test.YtbhobjepjaeffaaAllALawRunProcess
import Derived.Deep.CutRange
set_option linter.unusedVariables false
set_option linter.unusedSimpArgs false
namespace Go.Proofs.Ytbhobjepjaeffaa
open Go.RowKit
theorem atImage {e : TypeId} {w : World} {B : Nat} {A : Option Addr} {n c : Nat} {xs : List DImage} (h : (tImage.sl e).R w B [.slice A n c] xs) {k : Nat} (hk : k < xs.length) :
    ∃ g off x A0 c0, A = some ⟨g, off, none⟩ ∧ g < B ∧ xs[k]? = some x ∧ w.cell? ⟨g, off + k * 2, none⟩ = some (.string x.Code) ∧ w.cell? ⟨g, off + k * 2 + 1, none⟩ = some (.slice A0 x.Symbols.length c0) ∧ x.Code.size ≤ 9223372036854775807 ∧ (tSymbol.sl 118).R w B [.slice A0 x.Symbols.length c0] x.Symbols := by
  obtain ⟨g, off, x, ec, h1, hB, h2, h3, h4⟩ := elem_at h hk
  obtain ⟨A0, c0, rfl, hf⟩ := tImage_R h3
  exact ⟨g, off, x, A0, c0, h1, hB, h2, h4 0 _ rfl, h4 1 _ rfl, hf⟩
def mkEImage (x : DImage) (k : Int) : DImage := ⟨markTx k, mkSymbolS x.Symbols (k + 1)⟩
def cntEImage (x : DImage) : Nat := 1 + cntSymbolS x.Symbols
def mkImageS (xs : List DImage) (k : Int) : List DImage := mkL mkEImage cntEImage xs k
def cntImageS (xs : List DImage) : Nat := cntL cntEImage xs
theorem mkImageS_length (xs : List DImage) (k : Int) : (mkImageS xs k).length = xs.length := mkL_length _ _
theorem cntEImage_eq (x : DImage) : cntEImage x = 1 + cntSymbolS x.Symbols := rfl
theorem toImageS_info : (Try.prog.info? 96).map (fun i => (i.zero, i.size, i.bytes)) = some (some (.agg #[.string ⟨#[]⟩, .slice none 0 0]), 2, 40) := by kernel_rfl
theorem elImage : Elem Try.prog 31 96 tImage 40 := by
  obtain ⟨i0, hi, hz0, hz1, hz2⟩ := info_parts toImageS_info
  exact ⟨Try.underlying31, ⟨i0, _, hi, hz0, hz1, hz2, rfl⟩, by decide⟩
set_option maxRecDepth 100000 in
theorem szImageS_l {xs : List DImage} {w : World} {v : Value} {left : Int} (hx : (tImage.sl 96).R w w.heap.size [v] xs) (h0 : 0 ≤ left) (h1 : left ≤ 1099511627776) :
    Calls Try.prog 51 #[v, .int .i64 left] w fun e w' => e = .returned (.int .i64 (szRes left (szL szImage xs))) ∧ Gro w w' := by
  obtain ⟨A, c, rfl, h2, h3⟩ := sl_at hx
  by_cases h : (xs.length : Int) ≤ left
  · go_enter Try.func51, Try.ntmps51
    go_wp2_with (fail)
    go_loopw [1, 5] (fun a i wr => ∃ (j s : Nat), j ≤ xs.length ∧ Hid (s = ((xs.take j).map szImage).sum) ∧ (xs.length : Int) + s ≤ left ∧ a = .int .i64 (left - xs.length - s) ∧ i = .int .i64 j ∧ Hid (Gro w wr)) (fun _ i _ => xs.length - (intOf i).toNat)
    case atStart => exact ⟨0, 0, Nat.zero_le _, rfl, by omega, by simp, rfl, Gro.refl _⟩
    case round =>
      obtain ⟨j, s, hj, hs, hle, rfl, rfl, hG⟩ := hrel
      obtain ⟨os, d, rfl⟩ := hG.out
      clear hG
      by_cases hlt : j < xs.length
      · obtain ⟨g, off, x, A0, c0, rfl, hgb, hxk, hx0, hx1, bx0, bx1⟩ := atImage hx hlt
        have HX := Lib.hid (szSnoc szImage hxk)
        have HM := Lib.hid (szLe szImage xs (j + 1))
        obtain ⟨n0, hn0⟩ : ∃ n, szImage x = n := ⟨_, rfl⟩
        have HN := Lib.hid hn0
        clear hxk hx hn0
        by_cases hsz : (xs.length : Int) + s + n0 ≤ left
        · have HR := Lib.hid (show szRes (left - xs.length - s) n0 = left - xs.length - s - n0 from if_pos (by omega))
          go_wp2_with (go_at_call 88; refine (szImage_l (x := x) bx0 (Ty.up _ bx1 (by repeat (first | with_reducible exact Gro.refl _ | with_reducible exact Gro.refl_drew _ _ _ | with_reducible exact Gro.refl_drewN _ _ _ _ | assumption | with_reducible apply Gro.more | with_reducible apply Gro.alloc | with_reducible apply Gro.drew | with_reducible apply Gro.drewN))) (by omega) (by omega)).mono ?_; rw [HN.out, HR.out]; rintro e w1 ⟨rfl, os1, d1, rfl⟩)
          go_roundw
          case rel => exact ⟨j + 1, s + n0, by omega, Lib.hid (by rw [hs.out, HX.out, HN.out]), by omega, by go_num, by go_num, Lib.hid (by repeat (first | with_reducible exact Gro.refl _ | with_reducible exact Gro.refl_drew _ _ _ | with_reducible exact Gro.refl_drewN _ _ _ _ | assumption | with_reducible apply Gro.more | with_reducible apply Gro.alloc | with_reducible apply Gro.drew | with_reducible apply Gro.drewN))⟩
          case measure => simp [intOf]; omega
        · have HR := Lib.hid (show szRes (left - xs.length - s) n0 = -1 from if_neg (by omega))
          have HQ := Lib.hid (show szRes left (szL szImage xs) = -1 from if_neg (by have h1 := HX.out; have h2 := HM.out; have h3 := hs.out; have h4 := HN.out; unfold szL; omega))
          go_wp2_with (go_at_call 88; refine (szImage_l (x := x) bx0 (Ty.up _ bx1 (by repeat (first | with_reducible exact Gro.refl _ | with_reducible exact Gro.refl_drew _ _ _ | with_reducible exact Gro.refl_drewN _ _ _ _ | assumption | with_reducible apply Gro.more | with_reducible apply Gro.alloc | with_reducible apply Gro.drew | with_reducible apply Gro.drewN))) (by omega) (by omega)).mono ?_; rw [HN.out, HR.out]; rintro e w1 ⟨rfl, os1, d1, rfl⟩)
          go_ret
          exact ⟨ret_int HQ.out.symm, (by repeat (first | with_reducible exact Gro.refl _ | with_reducible exact Gro.refl_drew _ _ _ | with_reducible exact Gro.refl_drewN _ _ _ _ | assumption | with_reducible apply Gro.more | with_reducible apply Gro.alloc | with_reducible apply Gro.drew | with_reducible apply Gro.drewN))⟩
      · go_wp2
        go_ret
        exact ⟨ret_int (by
          have h3 := hs.out
          rw [szAll szImage (show j = xs.length by omega)] at h3
          unfold szRes szL
          rw [if_pos (by omega)]
          omega), (by repeat (first | with_reducible exact Gro.refl _ | with_reducible exact Gro.refl_drew _ _ _ | with_reducible exact Gro.refl_drewN _ _ _ _ | assumption | with_reducible apply Gro.more | with_reducible apply Gro.alloc | with_reducible apply Gro.drew | with_reducible apply Gro.drewN))⟩
  · have HR := Lib.hid (show szRes left (szL szImage xs) = -1 from if_neg (by unfold szL; omega))
    go_enter Try.func51, Try.ntmps51
    go_wp2
    go_ret
    exact ⟨ret_int HR.out.symm, Gro.refl _⟩
set_option maxHeartbeats 8000000 in
set_option maxRecDepth 100000 in
theorem toImageS_l {xs : List DImage} {w : World} {v : Value} (hx : (tImage.sl 96).R w w.heap.size [v] xs) (hn : szL szImage xs ≤ 1099511627776) :
    Calls Try.prog 55 #[v] w (RetSl tImage 96 xs w) := by
  obtain ⟨A, c, rfl, h2, h3⟩ := sl_at hx
  obtain ⟨i0, hi, hz0, hz1, hz2⟩ := info_parts toImageS_info
  have hn1 : xs.length ≤ 1099511627776 := Nat.le_trans (szL_len _ _) hn
  have hmk := run_make_rowN (P := Try.prog) 31 96 i0 _ Try.underlying31 hi hz0 .i64 .i64 xs.length xs.length (Nat.le_refl _) (by rw [hz2]; omega) (by omega)
  rw [hz1] at hmk
  clear hz0 hz1 hz2 hi
  go_enter Try.func55, Try.ntmps55
  go_wp2_with (fail)
  go_loopw [4] (fun i wr => ∃ (j : Nat) (cur : Array Value) (os : Array Obj) (d : Nat) (S' : List Nat), j ≤ xs.length ∧ i = .int .i64 j ∧ Hid (wr = gro (w.alloc (.cells cur 96)) os d) ∧ Hid (Rows tImage (gro (w.alloc (.cells cur 96)) os d) (cur.toList.take (j * 2)) (xs.take j) S') ∧ Hid (S'.Nodup) ∧ Hid (∀ b ∈ S', w.heap.size + 1 ≤ b) ∧ Hid (cur.size = xs.length * 2)) (fun i _ => xs.length - (intOf i).toNat)
  case atStart => exact ⟨0, _, _, _, [], Nat.zero_le _, rfl, gro_refl, Lib.hid (by simp [Rows]), Lib.hid List.nodup_nil, Lib.hid (by simp), madeCells_size _ _⟩
  case round =>
    obtain ⟨j, cur, os, d, S', hj, rfl, hw, hr, hN, hL, hsz⟩ := hrel
    have hw' := hw.out
    subst hw'
    clear hw hmk
    by_cases hlt : j < xs.length
    · obtain ⟨g, off, x, A0, c0, rfl, hgb, hxk, hx0, hx1, bx0, bx1⟩ := atImage hx hlt
      have hjs : j * 2 + 1 < cur.size := by have := hsz.out; omega
      have HX := Lib.hid hxk
      have hszx : szImage x ≤ 1099511627776 := Nat.le_trans (szL_elem szImage hxk) hn
      clear hxk hx
      go_wp2_with (fail)
      refine (toImage_l (x := x) bx0 (Ty.up _ bx1 (by repeat (first | with_reducible exact Gro.refl _ | with_reducible exact Gro.refl_drew _ _ _ | with_reducible exact Gro.refl_drewN _ _ _ _ | assumption | with_reducible apply Gro.more | with_reducible apply Gro.alloc | with_reducible apply Gro.drew | with_reducible apply Gro.drewN))) hszx).mono ?_
      rintro e w1 ⟨B0, f0, rfl, hF, os1, d1, rfl⟩
      obtain ⟨o0, ho0⟩ : ∃ u, cur[j * 2]? = some u := ⟨_, Array.getElem?_eq_getElem (by omega)⟩
      obtain ⟨o1, ho1⟩ : ∃ u, (cur.setIfInBounds (j * 2) (.string x.Code))[j * 2 + 1]? = some u := ⟨_, Array.getElem?_eq_getElem (by simp only [Array.size_setIfInBounds]; omega)⟩
      go_wp2
      go_roundw
      case rel =>
        rw [gro_gro] at hF
        obtain ⟨S'', h1, h2, h3, h4⟩ := rows_put (T := tImage) hr.out hN.out hL.out hsz.out hlt HX.out hF (by rw [← gro_gro]; exact Gro.of _ _ _)
        exact ⟨j + 1, _, os ++ os1, d1, S'', by omega, by go_num, gro_gro _ _ _ _, h1, h2, h3, h4⟩
      case measure => simp [intOf]; omega
    · have hje : j = xs.length := by omega
      subst hje
      go_wp2
      go_ret
      exact rows_done hr.out hN.out hL.out hsz.out (Nat.le_refl _) (by omega)
set_option maxHeartbeats 8000000 in
set_option maxRecDepth 100000 in
theorem eqImageS_l {xs ys : List DImage} {w : World} {v u : Value} (hx : (tImage.sl 96).R w w.heap.size [v] xs) (hy : (tImage.sl 96).R w w.heap.size [u] ys) :
    Calls Try.prog 59 #[v, u] w fun e w' => e = .returned (.bool (decide (xs = ys))) ∧ Gro w w' := by
  obtain ⟨A, c, rfl, h1, h2⟩ := sl_at hx
  obtain ⟨A', c', rfl, k1, k2⟩ := sl_at hy
  by_cases hl : xs.length = ys.length
  · have hne : ((xs.length : Int) != (ys.length : Int)) = false := by simp [hl]
    have HL := Lib.hid hl
    clear hl
    go_enter Try.func59, Try.ntmps59
    go_wp2_with (fail)
    go_loopw [5] (fun i wr => ∃ k : Nat, k ≤ xs.length ∧ i = .int .i64 k ∧ Hid (Gro w wr) ∧ Hid (xs.take k = ys.take k)) (fun i _ => xs.length - (intOf i).toNat)
    case atStart => exact ⟨0, Nat.zero_le _, rfl, Gro.refl _, Lib.hid (by simp)⟩
    case round =>
      obtain ⟨k, hk, rfl, hG, HT⟩ := hrel
      obtain ⟨os, d, rfl⟩ := hG.out
      clear hG
      by_cases hlt : k < xs.length
      · have hlt2 : k < ys.length := by rw [← HL.out]; exact hlt
        obtain ⟨g, off, x, A0, c0, rfl, hgb, hxk, hx0, hx1, bx0, bx1⟩ := atImage hx hlt
        obtain ⟨g', off', y, B0, e0, rfl, hgb', hyk, hy0, hy1, by0, by1⟩ := atImage hy hlt2
        have HX := Lib.hid hxk
        have HY := Lib.hid hyk
        clear hxk hyk hx hy
        by_cases hxy : x = y
        · subst hxy
          go_wp2_with (fail)
          go_region_held3 (fun w' => w'.cell? ⟨g, off + k * 2, none⟩ = some (.string x.Code) ∧ w'.cell? ⟨g, off + k * 2 + 1, none⟩ = some (.slice A0 x.Symbols.length c0) ∧ w'.cell? ⟨g', off' + k * 2, none⟩ = some (.string x.Code) ∧ w'.cell? ⟨g', off' + k * 2 + 1, none⟩ = some (.slice B0 x.Symbols.length e0)) ((repeat' apply And.intro) <;> (first | ((repeat (first | assumption | with_reducible refine gro_keeps ?_ _ _ | with_reducible refine alloc_keeps ?_ _ | with_reducible refine drew_keeps ?_)); done) | (simp [go_sem]; done))) (first
            | (go_at_call 91; refine (eqImage_l (x := x) (y := x) (Ty.up _ bx1 (by repeat (first | with_reducible exact Gro.refl _ | with_reducible exact Gro.refl_drew _ _ _ | with_reducible exact Gro.refl_drewN _ _ _ _ | assumption | with_reducible apply Gro.more | with_reducible apply Gro.alloc | with_reducible apply Gro.drew | with_reducible apply Gro.drewN))) (Ty.up _ by1 (by repeat (first | with_reducible exact Gro.refl _ | with_reducible exact Gro.refl_drew _ _ _ | with_reducible exact Gro.refl_drewN _ _ _ _ | assumption | with_reducible apply Gro.more | with_reducible apply Gro.alloc | with_reducible apply Gro.drew | with_reducible apply Gro.drewN)))).mono ?_; rintro e w1 ⟨rfl, os1, d1, rfl⟩))
          go_wp2
          go_roundw
          case rel => exact ⟨k + 1, by omega, by go_num, Lib.hid (by repeat (first | with_reducible exact Gro.refl _ | with_reducible exact Gro.refl_drew _ _ _ | with_reducible exact Gro.refl_drewN _ _ _ _ | assumption | with_reducible apply Gro.more | with_reducible apply Gro.alloc | with_reducible apply Gro.drew | with_reducible apply Gro.drewN)), Lib.hid (by rw [take_snoc HX.out, take_snoc HY.out, HT.out])⟩
          case measure => simp [intOf]; omega
        · have HXY := Lib.hid (show decide (x = y) = false from by simp [hxy])
          go_wp2_with (fail)
          go_region_held3 (fun w' => w'.cell? ⟨g, off + k * 2, none⟩ = some (.string x.Code) ∧ w'.cell? ⟨g, off + k * 2 + 1, none⟩ = some (.slice A0 x.Symbols.length c0) ∧ w'.cell? ⟨g', off' + k * 2, none⟩ = some (.string y.Code) ∧ w'.cell? ⟨g', off' + k * 2 + 1, none⟩ = some (.slice B0 y.Symbols.length e0)) ((repeat' apply And.intro) <;> (first | ((repeat (first | assumption | with_reducible refine gro_keeps ?_ _ _ | with_reducible refine alloc_keeps ?_ _ | with_reducible refine drew_keeps ?_)); done) | (simp [go_sem]; done))) (first
            | (go_at_call 91; refine (eqImage_l (x := x) (y := y) (Ty.up _ bx1 (by repeat (first | with_reducible exact Gro.refl _ | with_reducible exact Gro.refl_drew _ _ _ | with_reducible exact Gro.refl_drewN _ _ _ _ | assumption | with_reducible apply Gro.more | with_reducible apply Gro.alloc | with_reducible apply Gro.drew | with_reducible apply Gro.drewN))) (Ty.up _ by1 (by repeat (first | with_reducible exact Gro.refl _ | with_reducible exact Gro.refl_drew _ _ _ | with_reducible exact Gro.refl_drewN _ _ _ _ | assumption | with_reducible apply Gro.more | with_reducible apply Gro.alloc | with_reducible apply Gro.drew | with_reducible apply Gro.drewN)))).mono ?_; rw [HXY.out]; rintro e w1 ⟨rfl, os1, d1, rfl⟩))
          go_wp2
          go_ret
          refine ⟨ret_bool ?_, (by repeat (first | with_reducible exact Gro.refl _ | with_reducible exact Gro.refl_drew _ _ _ | with_reducible exact Gro.refl_drewN _ _ _ _ | assumption | with_reducible apply Gro.more | with_reducible apply Gro.alloc | with_reducible apply Gro.drew | with_reducible apply Gro.drewN))⟩
          symm
          simp only [decide_eq_false_iff_not]
          rintro rfl
          exact hxy (Option.some.inj (HX.out.symm.trans HY.out))
      · go_wp2
        go_ret
        refine ⟨ret_bool ?_, (by repeat (first | with_reducible exact Gro.refl _ | with_reducible exact Gro.refl_drew _ _ _ | with_reducible exact Gro.refl_drewN _ _ _ _ | assumption | with_reducible apply Gro.more | with_reducible apply Gro.alloc | with_reducible apply Gro.drew | with_reducible apply Gro.drewN))⟩
        have : k = xs.length := by omega
        subst this
        have h1 := HT.out
        rw [HL.out] at h1
        simp only [List.take_length] at h1
        rw [← HL.out] at h1
        simp at h1
        simp [h1]
  · have hne : ((xs.length : Int) != (ys.length : Int)) = true := by simp; omega
    go_enter Try.func59, Try.ntmps59
    go_wp2
    go_ret
    exact ⟨ret_bool (by symm; simp only [decide_eq_false_iff_not]; rintro rfl; exact hl rfl), Gro.refl _⟩
set_option maxRecDepth 100000 in
set_option maxHeartbeats 4000000 in
theorem markImageS_l {xs : List DImage} {w : World} {A : Option Addr} {n c : Nat} {k : Int} {S : List Nat} (hO : (tImage.sl 96).O w [.slice A n c] xs S) (hS : S.Nodup) (h0 : 0 < k) (h1 : k + (cntImageS xs : Nat) ≤ 1099511627776) :
    Calls Try.prog 60 #[.slice A n c, .int .i64 k] w fun e w' => e = .returned (.int .i64 (k + (cntImageS xs : Nat))) ∧ (tImage.sl 96).O w' [.slice A n c] (mkImageS xs k) S ∧ OnlyS S w w' := by
  obtain ⟨_, _, hx, h2, h3⟩ := sl_at (Ty.read _ hO)
  injection hx with hA hn hc
  subst hA hn hc
  have h3c := h3
  clear h3
  unfold cntImageS at h1 ⊢
  go_enter Try.func60, Try.ntmps60
  go_wp2_with (fail)
  go_loopw [1, 5] (fun a i wr => ∃ (j q : Nat), j ≤ xs.length ∧ a = .int .i64 (k + q) ∧ i = .int .i64 j ∧ Hid (cntL cntEImage (xs.take j) = q) ∧ Hid ((tImage.sl 96).O wr [.slice A xs.length c] (mkTo mkEImage cntEImage xs k j) S) ∧ Hid (OnlyS S w wr)) (fun _ i _ => xs.length - (intOf i).toNat)
  case atStart => exact ⟨0, 0, Nat.zero_le _, by simp, rfl, Lib.hid (by simp [cntL]), Lib.hid (by rw [mkTo_zero]; exact hO), OnlyS.refl _ _⟩
  case round =>
    obtain ⟨j, q, hj, rfl, rfl, hq, ho, hs⟩ := hrel
    by_cases hlt : j < xs.length
    · have hxj : xs[j]? = some xs[j] := List.getElem?_eq_getElem hlt
      obtain ⟨g, ec, Sc, cur, rfl, hgS, hgl, hgc, hSc, hNc, hO1, hb, hcs, hcell, hset⟩ := own_mix ho.out hS (mkTo_get hxj k)
      generalize hxe : xs[j] = x at hxj hO1
      clear hxe
      have hqs : q + cntEImage x ≤ cntL cntEImage xs := by
        have := cntL_snoc (cnt := cntEImage) hxj
        have h9 := cntL_take_le (cnt := cntEImage) xs (j + 1)
        have := hq.out
        omega
      have hq2 := Lib.hid (show cntL cntEImage (xs.take (j + 1)) = q + cntEImage x from by rw [cntL_snoc hxj, hq.out])
      rw [cntEImage_eq] at hqs
      obtain ⟨A0, c0, S0, hcl, hSS, _, hO0⟩ := tImage_O hO1
      subst hcl
      have hSS' := hSS.symm
      subst hSS'
      have hr0 := hcell 0 _ rfl
      have hr1 := hcell 1 _ rfl
      simp only [Nat.add_zero, show tImage.size = 2 from rfl] at hcs hset hr0 hr1
      have hc0 : wr.cell? ⟨g, j * 2, none⟩ = some (.string x.Code) := (cell_of_row wr g _ cur _ (0, 0) hb).trans hr0
      have hc1 : wr.cell? ⟨g, j * 2 + 1, none⟩ = some (.slice A0 x.Symbols.length c0) := (cell_of_row wr g _ cur _ (0, 0) hb).trans hr1
      have hf0 := frz_blk hb (j * 2)
      have hf1 := frz_blk hb (j * 2 + 1)
      have HX := Lib.hid hxj
      have HS := Lib.hid hset
      have hN0 := hNc
      clear hcell hset hxj hO hO1
      have hL0 := Ty.ltO _ hO0
      have hg0 : g ∉ S0 := fun hm => hgc (by simp [hm])
      go_wp2_with (first | (go_at_call 92; refine (markText_l _ (by omega) (by omega) _).mono ?_; rintro e w9 ⟨rfl, os, d, rfl⟩))
      refine (markSymbolS_l (xs := x.Symbols) (keepS _ hO0 (((OnlyS.refl [g] wr).setCell (p := ⟨g, _, none⟩) (by simp) _).trans ((Gro.of _ _ _).only _)) (not_one hg0)) hN0 (by omega) (by omega)).mono ?_
      rintro e w1 ⟨rfl, hM0, hs1⟩
      have hb1 : w1.heap[g]? = some (.cells (cur.setIfInBounds (j * 2) (.string (markTx (k + (q : Int))))) _ (0, 0)) := (hs1.block g (Nat.lt_of_lt_of_le hgl ((((OnlyS.refl [g] wr).setCell (p := ⟨g, _, none⟩) (by simp) _).trans ((Gro.of _ _ _).only _))).size) hg0).trans (grow_blk (heap_setCell_at hb _ _) (Gro.of _ _ _))
      have hon1 : OnlyS ([g] ++ S0) wr w1 := ((((OnlyS.refl [g] wr).setCell (p := ⟨g, _, none⟩) (by simp) _).trans ((Gro.of _ _ _).only _)).mono (fun b hb => by simp at hb; simp [hb])).trans (hs1.mono (fun b hb => by simp [hb]))
      obtain ⟨cur1, he1⟩ : ∃ c, (cur.setIfInBounds (j * 2) (.string (markTx (k + (q : Int))))) = c := ⟨_, rfl⟩
      rw [he1] at hb1
      have hr1_0 : cur1[j * 2]? = some (.string (markTx (k + (q : Int)))) := by rw [← he1]; exact Array.getElem?_setIfInBounds_self_of_lt (by (try simp only [Array.size_setIfInBounds]); omega)
      have hc1_0 : w1.cell? ⟨g, j * 2, none⟩ = some (.string (markTx (k + (q : Int)))) := (cell_of_row w1 g _ cur1 _ (0, 0) hb1).trans hr1_0
      have hf1_0 := frz_blk hb1 (j * 2)
      have hr1_1 : cur1[j * 2 + 1]? = some (.slice A0 x.Symbols.length c0) := by rw [← he1]; rw [Array.getElem?_setIfInBounds_ne (by omega)]; exact hr1
      have hc1_1 : w1.cell? ⟨g, j * 2 + 1, none⟩ = some (.slice A0 x.Symbols.length c0) := (cell_of_row w1 g _ cur1 _ (0, 0) hb1).trans hr1_1
      have hf1_1 := frz_blk hb1 (j * 2 + 1)
      have hz1 : cur1.size = cur.size := by (first | (rw [← he1]; done) | (rw [← he1]; simp only [Array.size_setIfInBounds]))
      have ho1 : ∀ i, i < j * 2 ∨ j * 2 + 2 ≤ i → cur1[i]? = cur[i]? := fun i hi => by rw [← he1]; rw [Array.getElem?_setIfInBounds_ne (by omega)]
      have HE1 := Lib.hid he1
      clear he1
      have hgl1 : g < w1.heap.size := Nat.lt_of_lt_of_le hgl hon1.size
      clear hc0 hf0 hc1 hf1
      go_wp2_with (first | (go_at_call 92; refine (markText_l _ (by omega) (by omega) _).mono ?_; rintro e w9 ⟨rfl, os, d, rfl⟩))
      go_roundw
      case rel =>
        have e := mkTo_set (mk := mkEImage) (cnt := cntEImage) HX.out k
        rw [hq.out] at e
        refine ⟨j + 1, q + cntEImage x, by omega, ?_, by go_num, hq2, Lib.hid ?_, Lib.hid ?_⟩
        · exact congrArg (Value.int .i64) (by rw [cntEImage_eq]; push_cast; omega)
        · rw [← e]
          have hOO : ∀ W, OnlyS [g] w1 W → tImage.O W [.string (markTx (k + (q : Int))), .slice A0 x.Symbols.length c0] (mkEImage x (k + (q : Int))) (S0) := fun W hW => by
            have h := (tImage_mkOd (x := (mkEImage x (k + (q : Int)))) (markTx_size _ (by omega) (by omega)) (keepS _ (by simpa [mkEImage, mkSymbolS_length] using hM0) hW (not_one hg0)))
            simpa [mkEImage, mkSymbolS_length] using h
          refine HS.out _ _ _ _ (hOO _ (OnlyS.refl [g] w1)) hb1 ?_ ?_ ?_ ?_
          · simp only [Array.size_setIfInBounds, hz1]
          · intro i hi
            rw [ho1 i hi]
          · intro t u hu
            exact match t, hu with
            | 0, hu => by
              cases hu
              exact hr1_0
            | 1, hu => by
              cases hu
              exact hr1_1
            | t + 2, hu => by simp at hu
          · exact ((hon1.mono (fun b hb => by simp at hb ⊢; rcases hb with h | h <;> simp [h])).trans ((OnlyS.refl [g] w1).mono (fun b hb => by simp at hb; simp [hb])))
        · exact hs.out.trans ((((hon1.mono (fun b hb => by simp at hb ⊢; rcases hb with h | h <;> simp [h])).trans ((OnlyS.refl [g] w1).mono (fun b hb => by simp at hb; simp [hb]))) : OnlyS (g :: (S0)) wr _).mono (fun b hb => by
            rcases List.mem_cons.1 hb with rfl | hb
            · exact hgS
            · exact hSc b (by simpa using hb)))
      case measure => simp [intOf]; omega
    · go_wp2
      have : j = xs.length := by omega
      subst this
      have ho' := ho.out
      rw [mkTo_all] at ho'
      have hq' := hq.out
      rw [List.take_length] at hq'
      go_ret
      exact ⟨ret_int (by rw [hq']), ho', hs.out⟩
set_option maxRecDepth 100000 in
set_option maxHeartbeats 4000000 in
theorem heldImageS_l {xs : List DImage} {w : World} {v : Value} {k : Int} (hx : (tImage.sl 96).R w w.heap.size [v] (mkImageS xs k)) (h0 : 0 < k) (h1 : k + (cntImageS xs : Nat) ≤ 1099511627776) :
    Calls Try.prog 94 #[v, .int .i64 k] w fun e w' => e = .returned (.int .i64 (k + (cntImageS xs : Nat))) ∧ Gro w w' := by
  obtain ⟨A, c, rfl, h2, h3⟩ := sl_at hx
  have hlen : (mkImageS xs k).length = xs.length := mkL_length _ _
  rw [hlen] at h2 hx ⊢
  have HL := Lib.hid hlen
  clear hlen
  unfold cntImageS at h1 ⊢
  go_enter Try.func94, Try.ntmps94
  go_wp2_with (fail)
  go_loopw [1, 5] (fun a i wr => ∃ (j q : Nat), j ≤ xs.length ∧ a = .int .i64 (k + q) ∧ i = .int .i64 j ∧ Hid (cntL cntEImage (xs.take j) = q) ∧ Hid (Gro w wr)) (fun _ i _ => xs.length - (intOf i).toNat)
  case atStart => exact ⟨0, 0, Nat.zero_le _, by simp, rfl, Lib.hid (by simp [cntL]), Lib.hid (Gro.refl _)⟩
  case round =>
    obtain ⟨j, q, hj, rfl, rfl, hq, hG⟩ := hrel
    obtain ⟨os, d, rfl⟩ := hG.out
    clear hG
    by_cases hlt : j < xs.length
    · obtain ⟨g, off, y, A0, c0, rfl, hgb, hxk, hx0, hx1, bx0, bx1⟩ := atImage hx (k := j) (by rw [HL.out]; exact hlt)
      have hxj : xs[j]? = some xs[j] := List.getElem?_eq_getElem hlt
      generalize hxe : xs[j] = x at hxj
      clear hxe
      have hye : y = mkEImage x (k + (q : Int)) := by
        have := mkL_get (mk := mkEImage) (cnt := cntEImage) hxj k
        rw [hq.out] at this
        exact Option.some.inj (hxk.symm.trans this)
      have hqs : q + cntEImage x ≤ cntL cntEImage xs := by
        have := cntL_snoc (cnt := cntEImage) hxj
        have h9 := cntL_take_le (cnt := cntEImage) xs (j + 1)
        have := hq.out
        omega
      have hq2 := Lib.hid (show cntL cntEImage (xs.take (j + 1)) = q + cntEImage x from by rw [cntL_snoc hxj, hq.out])
      rw [cntEImage_eq] at hqs
      clear hxk hx hxj
      subst hye
      simp only [mkEImage, mkSymbolS_length] at hx0 hx1 bx1
      go_wp2_with (fail)
      go_region_held3 (fun w' => w'.cell? ⟨g, off + j * 2, none⟩ = some (.string (markTx (k + (q : Int))))) ((repeat' apply And.intro) <;> (first | ((repeat (first | assumption | with_reducible refine gro_keeps ?_ _ _ | with_reducible refine alloc_keeps ?_ _ | with_reducible refine drew_keeps ?_)); done) | (simp [go_sem]; done))) (first
        | (go_at_call 92; refine (markText_l _ (by omega) (by omega) _).mono ?_; rintro e w1 ⟨rfl, os1, d1, rfl⟩))
      go_wp2_with (fail)
      refine (heldSymbolS_l (xs := x.Symbols) (Ty.up _ bx1 (by repeat (first | with_reducible exact Gro.refl _ | with_reducible exact Gro.refl_drew _ _ _ | with_reducible exact Gro.refl_drewN _ _ _ _ | assumption | with_reducible apply Gro.more | with_reducible apply Gro.alloc | with_reducible apply Gro.drew | with_reducible apply Gro.drewN))) (by omega) (by omega)).mono ?_
      rintro e w2 ⟨rfl, os2, d2, rfl⟩
      go_wp2_with (fail)
      go_roundw
      case rel =>
        refine ⟨j + 1, q + cntEImage x, by omega, ?_, by go_num, hq2, Lib.hid (by repeat (first | with_reducible exact Gro.refl _ | with_reducible exact Gro.refl_drew _ _ _ | with_reducible exact Gro.refl_drewN _ _ _ _ | assumption | with_reducible apply Gro.more | with_reducible apply Gro.alloc | with_reducible apply Gro.drew | with_reducible apply Gro.drewN))⟩
        exact congrArg (Value.int .i64) (by rw [cntEImage_eq]; push_cast; omega)
      case measure => simp [intOf]; omega
    · go_wp2
      have : j = xs.length := by omega
      subst this
      have hq' := hq.out
      rw [List.take_length] at hq'
      go_ret
      exact ⟨ret_int (by rw [hq']), (by repeat (first | with_reducible exact Gro.refl _ | with_reducible exact Gro.refl_drew _ _ _ | with_reducible exact Gro.refl_drewN _ _ _ _ | assumption | with_reducible apply Gro.more | with_reducible apply Gro.alloc | with_reducible apply Gro.drew | with_reducible apply Gro.drewN))⟩
end Go.Proofs.Ytbhobjepjaeffaa
namespace Go.Proofs.Ytbhobjepjaeffaa
open Go.RowKit
def RetSpace (x : DSpace) (w : World) (r : Ending) (w' : World) : Prop := ∃ A0 c0 A1 c1 A2 c2, r = .returned (.agg #[.slice A0 x.Images.length c0, .slice A1 x.Bases.length c1, .slice A2 x.Entries.length c2]) ∧ Fresh tSpace w w' [.slice A0 x.Images.length c0, .slice A1 x.Bases.length c1, .slice A2 x.Entries.length c2] x ∧ Gro w w'
theorem tSpace_mkOd {w : World} {x : DSpace} {A0 : Option Addr} {c0 : Nat} {A1 : Option Addr} {c1 : Nat} {A2 : Option Addr} {c2 : Nat} {S0 : List Nat} {S1 : List Nat} {S2 : List Nat} (h0 : (tImage.sl 96).O w [.slice A0 x.Images.length c0] x.Images S0) (h1 : (intT.sl 3).O w [.slice A1 x.Bases.length c1] x.Bases S1) (h2 : (intT.sl 3).O w [.slice A2 x.Entries.length c2] x.Entries S2) : tSpace.O w [.slice A0 x.Images.length c0, .slice A1 x.Bases.length c1, .slice A2 x.Entries.length c2] x (S0 ++ S1 ++ S2) := by
  have h : tSpace.O w [.slice A0 x.Images.length c0, .slice A1 x.Bases.length c1, .slice A2 x.Entries.length c2] x (S0 ++ (S1 ++ S2)) := ⟨[.slice A0 x.Images.length c0], [.slice A1 x.Bases.length c1, .slice A2 x.Entries.length c2], S0, (S1 ++ S2), rfl, rfl, h0, ⟨[.slice A1 x.Bases.length c1], [.slice A2 x.Entries.length c2], S1, S2, rfl, rfl, h1, h2⟩⟩
  simpa using h
theorem eq_DSpace {x y : DSpace} : x = y ↔ x.Images = y.Images ∧ x.Bases = y.Bases ∧ x.Entries = y.Entries := by
  cases x
  cases y
  simp
def szSpace (x : DSpace) : Nat := szL szImage x.Images + x.Bases.length + x.Entries.length
set_option maxRecDepth 100000 in
theorem toSpace_l {x : DSpace} {w : World} {A0 : Option Addr} {c0 : Nat} {A1 : Option Addr} {c1 : Nat} {A2 : Option Addr} {c2 : Nat} (h0 : (tImage.sl 96).R w w.heap.size [.slice A0 x.Images.length c0] x.Images) (h1 : (intT.sl 3).R w w.heap.size [.slice A1 x.Bases.length c1] x.Bases) (h2 : (intT.sl 3).R w w.heap.size [.slice A2 x.Entries.length c2] x.Entries) (hn : szSpace x ≤ 1099511627776) : Calls Try.prog 19 #[.agg #[.slice A0 x.Images.length c0, .slice A1 x.Bases.length c1, .slice A2 x.Entries.length c2]] w (RetSpace x w) := by
  unfold szSpace at hn
  go_enter Try.func19, Try.ntmps19
  go_wp2_with (first
      | (go_at_call 55; (with_reducible refine (toImageS_l (xs := x.Images) (Ty.up _ h0 (by repeat (first | with_reducible exact Gro.refl _ | with_reducible exact Gro.refl_drew _ _ _ | with_reducible exact Gro.refl_drewN _ _ _ _ | assumption | with_reducible apply Gro.more | with_reducible apply Gro.alloc | with_reducible apply Gro.drew | with_reducible apply Gro.drewN))) (by omega)).mono ?_); rintro e w0 ⟨B0, d0, rfl, hF0, os0, dd0, rfl⟩)
      | (go_at_call 56; (with_reducible refine (toIntS_l (xs := x.Bases) (Ty.up _ h1 (by repeat (first | with_reducible exact Gro.refl _ | with_reducible exact Gro.refl_drew _ _ _ | with_reducible exact Gro.refl_drewN _ _ _ _ | assumption | with_reducible apply Gro.more | with_reducible apply Gro.alloc | with_reducible apply Gro.drew | with_reducible apply Gro.drewN))) (by omega)).mono ?_); rintro e w1 ⟨B1, d1, rfl, hF1, os1, dd1, rfl⟩)
      | (go_at_call 56; (with_reducible refine (toIntS_l (xs := x.Entries) (Ty.up _ h2 (by repeat (first | with_reducible exact Gro.refl _ | with_reducible exact Gro.refl_drew _ _ _ | with_reducible exact Gro.refl_drewN _ _ _ _ | assumption | with_reducible apply Gro.more | with_reducible apply Gro.alloc | with_reducible apply Gro.drew | with_reducible apply Gro.drewN))) (by omega)).mono ?_); rintro e w2 ⟨B2, d2, rfl, hF2, os2, dd2, rfl⟩))
  refine bodyPost_ret (v := .agg #[.slice B0 x.Images.length d0, .slice B1 x.Bases.length d1, .slice B2 x.Entries.length d2]) (by simp [results, Try.results19, go_sem]) rfl ⟨B0, d0, B1, d1, B2, d2, rfl, ?_, (by repeat (first | with_reducible exact Gro.refl _ | with_reducible exact Gro.refl_drew _ _ _ | with_reducible exact Gro.refl_drewN _ _ _ _ | assumption | with_reducible apply Gro.more | with_reducible apply Gro.alloc | with_reducible apply Gro.drew | with_reducible apply Gro.drewN))⟩
  obtain ⟨S0, hO0, hN0, hL0⟩ := hF0
  obtain ⟨S1, hO1, hN1, hL1⟩ := hF1
  obtain ⟨S2, hO2, hN2, hL2⟩ := hF2
  have hU0 := Ty.ltO _ hO0
  have hL0' := hL0
  have hU1 := Ty.ltO _ hO1
  have hL1' := hL1
  have hU2 := Ty.ltO _ hO2
  have hL2' := hL2
  simp at hL0' hU0 hL1' hU1 hL2' hU2
  exact ⟨_, tSpace_mkOd (Ty.same _ hO0 hL0 (by repeat (first | with_reducible exact Same.refl _ _ _ | ((with_reducible refine Same.base ?_ ?_) <;> (simp <;> omega)) | ((with_reducible refine Same.more ?_ ?_ _ _); rotate_left; simp <;> omega) | ((with_reducible refine Same.alloc ?_ ?_ _); rotate_left; simp <;> omega) | with_reducible apply Same.drew | with_reducible apply Same.drewN))) (Ty.same _ hO1 hL1 (by repeat (first | with_reducible exact Same.refl _ _ _ | ((with_reducible refine Same.base ?_ ?_) <;> (simp <;> omega)) | ((with_reducible refine Same.more ?_ ?_ _ _); rotate_left; simp <;> omega) | ((with_reducible refine Same.alloc ?_ ?_ _); rotate_left; simp <;> omega) | with_reducible apply Same.drew | with_reducible apply Same.drewN))) (Ty.same _ hO2 hL2 (by repeat (first | with_reducible exact Same.refl _ _ _ | ((with_reducible refine Same.base ?_ ?_) <;> (simp <;> omega)) | ((with_reducible refine Same.more ?_ ?_ _ _); rotate_left; simp <;> omega) | ((with_reducible refine Same.alloc ?_ ?_ _); rotate_left; simp <;> omega) | with_reducible apply Same.drew | with_reducible apply Same.drewN))), List.nodup_append.2 ⟨List.nodup_append.2 ⟨hN0, hN1, fun a ha b hb => (by have h1 := hU0 a ha; have h2 := hL1' b hb; omega)⟩, hN2, fun a ha b hb => (List.mem_append.1 ha).elim (fun ha => (by have h1 := hU0 a ha; have h2 := hL2' b hb; omega)) (fun ha => (by have h1 := hU1 a ha; have h2 := hL2' b hb; omega))⟩, fun b hb => (List.mem_append.1 hb).elim (fun hb => (List.mem_append.1 hb).elim (fun hb => (by have := hL0' b hb; omega)) (fun hb => (by have := hL1' b hb; omega))) (fun hb => (by have := hL2' b hb; omega))⟩
set_option maxRecDepth 100000 in
theorem szSpace_l {x : DSpace} {w : World} {left : Int} {A0 : Option Addr} {c0 : Nat} {A1 : Option Addr} {c1 : Nat} {A2 : Option Addr} {c2 : Nat} (h0 : (tImage.sl 96).R w w.heap.size [.slice A0 x.Images.length c0] x.Images) (h1 : (intT.sl 3).R w w.heap.size [.slice A1 x.Bases.length c1] x.Bases) (h2 : (intT.sl 3).R w w.heap.size [.slice A2 x.Entries.length c2] x.Entries) (h00 : 0 ≤ left) (h01 : left ≤ 1099511627776) : Calls Try.prog 17 #[.agg #[.slice A0 x.Images.length c0, .slice A1 x.Bases.length c1, .slice A2 x.Entries.length c2], .int .i64 left] w fun e w' => e = .returned (.int .i64 (szRes left (szSpace x))) ∧ Gro w w' := by
  obtain ⟨n0, hn0⟩ : ∃ n, szL szImage x.Images = n := ⟨_, rfl⟩
  have HS := Lib.hid (show szSpace x = n0 + x.Bases.length + x.Entries.length from by unfold szSpace; rw [hn0])
  have HN0 := Lib.hid hn0
  clear hn0
  by_cases c0' : (n0 : Int) ≤ left
  · skip
    by_cases c1' : (n0 : Int) + (x.Bases.length : Int) ≤ left
    · skip
      by_cases c2' : (n0 : Int) + (x.Bases.length : Int) + (x.Entries.length : Int) ≤ left
      · skip
        have e0 : szRes (left) n0 = left - (n0 : Nat) := if_pos (by omega)
        have e1 : szRes (left - (n0 : Nat)) x.Bases.length = left - (n0 : Nat) - (x.Bases.length : Nat) := if_pos (by omega)
        have e2 : szRes (left - (n0 : Nat) - (x.Bases.length : Nat)) x.Entries.length = left - (n0 : Nat) - (x.Bases.length : Nat) - (x.Entries.length : Nat) := if_pos (by omega)
        go_enter Try.func17, Try.ntmps17
        go_wp2_with (first
      | (go_at_call 51; (with_reducible refine (szImageS_l (xs := x.Images) (Ty.up _ h0 (by repeat (first | with_reducible exact Gro.refl _ | with_reducible exact Gro.refl_drew _ _ _ | with_reducible exact Gro.refl_drewN _ _ _ _ | assumption | with_reducible apply Gro.more | with_reducible apply Gro.alloc | with_reducible apply Gro.drew | with_reducible apply Gro.drewN))) (by omega) (by omega)).mono ?_); rintro e w0 ⟨rfl, os0, d0, rfl⟩; rw [HN0.out])
      | (go_at_call 52; (with_reducible refine (szIntS_l (xs := x.Bases) (Ty.up _ h1 (by repeat (first | with_reducible exact Gro.refl _ | with_reducible exact Gro.refl_drew _ _ _ | with_reducible exact Gro.refl_drewN _ _ _ _ | assumption | with_reducible apply Gro.more | with_reducible apply Gro.alloc | with_reducible apply Gro.drew | with_reducible apply Gro.drewN))) (by omega) (by omega)).mono ?_); rintro e w1 ⟨rfl, os1, d1, rfl⟩)
      | (go_at_call 52; (with_reducible refine (szIntS_l (xs := x.Entries) (Ty.up _ h2 (by repeat (first | with_reducible exact Gro.refl _ | with_reducible exact Gro.refl_drew _ _ _ | with_reducible exact Gro.refl_drewN _ _ _ _ | assumption | with_reducible apply Gro.more | with_reducible apply Gro.alloc | with_reducible apply Gro.drew | with_reducible apply Gro.drewN))) (by omega) (by omega)).mono ?_); rintro e w2 ⟨rfl, os2, d2, rfl⟩))
        go_ret
        exact ⟨ret_int (by rw [HS.out]; unfold szRes; rw [if_pos (by omega)] <;> omega), (by repeat (first | with_reducible exact Gro.refl _ | with_reducible exact Gro.refl_drew _ _ _ | with_reducible exact Gro.refl_drewN _ _ _ _ | assumption | with_reducible apply Gro.more | with_reducible apply Gro.alloc | with_reducible apply Gro.drew | with_reducible apply Gro.drewN))⟩
      · have e0 : szRes (left) n0 = left - (n0 : Nat) := if_pos (by omega)
        have e1 : szRes (left - (n0 : Nat)) x.Bases.length = left - (n0 : Nat) - (x.Bases.length : Nat) := if_pos (by omega)
        have e2 : szRes (left - (n0 : Nat) - (x.Bases.length : Nat)) x.Entries.length = -1 := if_neg (by omega)
        go_enter Try.func17, Try.ntmps17
        go_wp2_with (first
      | (go_at_call 51; (with_reducible refine (szImageS_l (xs := x.Images) (Ty.up _ h0 (by repeat (first | with_reducible exact Gro.refl _ | with_reducible exact Gro.refl_drew _ _ _ | with_reducible exact Gro.refl_drewN _ _ _ _ | assumption | with_reducible apply Gro.more | with_reducible apply Gro.alloc | with_reducible apply Gro.drew | with_reducible apply Gro.drewN))) (by omega) (by omega)).mono ?_); rintro e w0 ⟨rfl, os0, d0, rfl⟩; rw [HN0.out])
      | (go_at_call 52; (with_reducible refine (szIntS_l (xs := x.Bases) (Ty.up _ h1 (by repeat (first | with_reducible exact Gro.refl _ | with_reducible exact Gro.refl_drew _ _ _ | with_reducible exact Gro.refl_drewN _ _ _ _ | assumption | with_reducible apply Gro.more | with_reducible apply Gro.alloc | with_reducible apply Gro.drew | with_reducible apply Gro.drewN))) (by omega) (by omega)).mono ?_); rintro e w1 ⟨rfl, os1, d1, rfl⟩)
      | (go_at_call 52; (with_reducible refine (szIntS_l (xs := x.Entries) (Ty.up _ h2 (by repeat (first | with_reducible exact Gro.refl _ | with_reducible exact Gro.refl_drew _ _ _ | with_reducible exact Gro.refl_drewN _ _ _ _ | assumption | with_reducible apply Gro.more | with_reducible apply Gro.alloc | with_reducible apply Gro.drew | with_reducible apply Gro.drewN))) (by omega) (by omega)).mono ?_); rintro e w2 ⟨rfl, os2, d2, rfl⟩))
        go_ret
        exact ⟨ret_int (by rw [HS.out]; unfold szRes; rw [if_neg (by omega)]), (by repeat (first | with_reducible exact Gro.refl _ | with_reducible exact Gro.refl_drew _ _ _ | with_reducible exact Gro.refl_drewN _ _ _ _ | assumption | with_reducible apply Gro.more | with_reducible apply Gro.alloc | with_reducible apply Gro.drew | with_reducible apply Gro.drewN))⟩
    · have e0 : szRes (left) n0 = left - (n0 : Nat) := if_pos (by omega)
      have e1 : szRes (left - (n0 : Nat)) x.Bases.length = -1 := if_neg (by omega)
      go_enter Try.func17, Try.ntmps17
      go_wp2_with (first
      | (go_at_call 51; (with_reducible refine (szImageS_l (xs := x.Images) (Ty.up _ h0 (by repeat (first | with_reducible exact Gro.refl _ | with_reducible exact Gro.refl_drew _ _ _ | with_reducible exact Gro.refl_drewN _ _ _ _ | assumption | with_reducible apply Gro.more | with_reducible apply Gro.alloc | with_reducible apply Gro.drew | with_reducible apply Gro.drewN))) (by omega) (by omega)).mono ?_); rintro e w0 ⟨rfl, os0, d0, rfl⟩; rw [HN0.out])
      | (go_at_call 52; (with_reducible refine (szIntS_l (xs := x.Bases) (Ty.up _ h1 (by repeat (first | with_reducible exact Gro.refl _ | with_reducible exact Gro.refl_drew _ _ _ | with_reducible exact Gro.refl_drewN _ _ _ _ | assumption | with_reducible apply Gro.more | with_reducible apply Gro.alloc | with_reducible apply Gro.drew | with_reducible apply Gro.drewN))) (by omega) (by omega)).mono ?_); rintro e w1 ⟨rfl, os1, d1, rfl⟩))
      go_ret
      exact ⟨ret_int (by rw [HS.out]; unfold szRes; rw [if_neg (by omega)]), (by repeat (first | with_reducible exact Gro.refl _ | with_reducible exact Gro.refl_drew _ _ _ | with_reducible exact Gro.refl_drewN _ _ _ _ | assumption | with_reducible apply Gro.more | with_reducible apply Gro.alloc | with_reducible apply Gro.drew | with_reducible apply Gro.drewN))⟩
  · have e0 : szRes (left) n0 = -1 := if_neg (by omega)
    go_enter Try.func17, Try.ntmps17
    go_wp2_with (first
      | (go_at_call 51; (with_reducible refine (szImageS_l (xs := x.Images) (Ty.up _ h0 (by repeat (first | with_reducible exact Gro.refl _ | with_reducible exact Gro.refl_drew _ _ _ | with_reducible exact Gro.refl_drewN _ _ _ _ | assumption | with_reducible apply Gro.more | with_reducible apply Gro.alloc | with_reducible apply Gro.drew | with_reducible apply Gro.drewN))) (by omega) (by omega)).mono ?_); rintro e w0 ⟨rfl, os0, d0, rfl⟩; rw [HN0.out]))
    go_ret
    exact ⟨ret_int (by rw [HS.out]; unfold szRes; rw [if_neg (by omega)]), (by repeat (first | with_reducible exact Gro.refl _ | with_reducible exact Gro.refl_drew _ _ _ | with_reducible exact Gro.refl_drewN _ _ _ _ | assumption | with_reducible apply Gro.more | with_reducible apply Gro.alloc | with_reducible apply Gro.drew | with_reducible apply Gro.drewN))⟩
set_option maxRecDepth 100000 in
theorem eqSpace_l {x y : DSpace} {w : World} {A0 : Option Addr} {c0 : Nat} {A1 : Option Addr} {c1 : Nat} {A2 : Option Addr} {c2 : Nat} {B0 : Option Addr} {d0 : Nat} {B1 : Option Addr} {d1 : Nat} {B2 : Option Addr} {d2 : Nat} (h0 : (tImage.sl 96).R w w.heap.size [.slice A0 x.Images.length c0] x.Images) (h1 : (intT.sl 3).R w w.heap.size [.slice A1 x.Bases.length c1] x.Bases) (h2 : (intT.sl 3).R w w.heap.size [.slice A2 x.Entries.length c2] x.Entries) (k0 : (tImage.sl 96).R w w.heap.size [.slice B0 y.Images.length d0] y.Images) (k1 : (intT.sl 3).R w w.heap.size [.slice B1 y.Bases.length d1] y.Bases) (k2 : (intT.sl 3).R w w.heap.size [.slice B2 y.Entries.length d2] y.Entries) : Calls Try.prog 21 #[.agg #[.slice A0 x.Images.length c0, .slice A1 x.Bases.length c1, .slice A2 x.Entries.length c2], .agg #[.slice B0 y.Images.length d0, .slice B1 y.Bases.length d1, .slice B2 y.Entries.length d2]] w fun e w' => e = .returned (.bool (decide (x = y))) ∧ Gro w w' := by
  go_enter Try.func21, Try.ntmps21
  go_wp2_with (first
      | (go_at_call 59; (with_reducible refine (eqImageS_l (xs := x.Images) (ys := y.Images) (Ty.up _ h0 (by repeat (first | with_reducible exact Gro.refl _ | with_reducible exact Gro.refl_drew _ _ _ | with_reducible exact Gro.refl_drewN _ _ _ _ | assumption | with_reducible apply Gro.more | with_reducible apply Gro.alloc | with_reducible apply Gro.drew | with_reducible apply Gro.drewN))) (Ty.up _ k0 (by repeat (first | with_reducible exact Gro.refl _ | with_reducible exact Gro.refl_drew _ _ _ | with_reducible exact Gro.refl_drewN _ _ _ _ | assumption | with_reducible apply Gro.more | with_reducible apply Gro.alloc | with_reducible apply Gro.drew | with_reducible apply Gro.drewN)))).mono ?_); rintro e w0 ⟨rfl, os0, d0, rfl⟩)
      | (go_at_call 39; (with_reducible refine (eqIntS_l (xs := x.Bases) (ys := y.Bases) (Ty.up _ h1 (by repeat (first | with_reducible exact Gro.refl _ | with_reducible exact Gro.refl_drew _ _ _ | with_reducible exact Gro.refl_drewN _ _ _ _ | assumption | with_reducible apply Gro.more | with_reducible apply Gro.alloc | with_reducible apply Gro.drew | with_reducible apply Gro.drewN))) (Ty.up _ k1 (by repeat (first | with_reducible exact Gro.refl _ | with_reducible exact Gro.refl_drew _ _ _ | with_reducible exact Gro.refl_drewN _ _ _ _ | assumption | with_reducible apply Gro.more | with_reducible apply Gro.alloc | with_reducible apply Gro.drew | with_reducible apply Gro.drewN)))).mono ?_); rintro e w1 ⟨rfl, os1, d1, rfl⟩)
      | (go_at_call 39; (with_reducible refine (eqIntS_l (xs := x.Entries) (ys := y.Entries) (Ty.up _ h2 (by repeat (first | with_reducible exact Gro.refl _ | with_reducible exact Gro.refl_drew _ _ _ | with_reducible exact Gro.refl_drewN _ _ _ _ | assumption | with_reducible apply Gro.more | with_reducible apply Gro.alloc | with_reducible apply Gro.drew | with_reducible apply Gro.drewN))) (Ty.up _ k2 (by repeat (first | with_reducible exact Gro.refl _ | with_reducible exact Gro.refl_drew _ _ _ | with_reducible exact Gro.refl_drewN _ _ _ _ | assumption | with_reducible apply Gro.more | with_reducible apply Gro.alloc | with_reducible apply Gro.drew | with_reducible apply Gro.drewN)))).mono ?_); rintro e w2 ⟨rfl, os2, d2, rfl⟩))
  all_goals
    go_ret
    refine ⟨ret_bool ?_, (by repeat (first | with_reducible exact Gro.refl _ | with_reducible exact Gro.refl_drew _ _ _ | with_reducible exact Gro.refl_drewN _ _ _ _ | assumption | with_reducible apply Gro.more | with_reducible apply Gro.alloc | with_reducible apply Gro.drew | with_reducible apply Gro.drewN))⟩
    simp_all [eq_DSpace]
def cntSpace (x : DSpace) : Nat := cntImageS x.Images + x.Bases.length + x.Entries.length
def mkSpace (x : DSpace) (k : Int) : DSpace := { x with Images := mkImageS x.Images k, Bases := mkInts x.Bases (k + (cntImageS x.Images : Nat)), Entries := mkInts x.Entries (k + (cntImageS x.Images : Nat) + (x.Bases.length : Nat)) }
set_option maxRecDepth 100000 in
theorem markSpace_l {x : DSpace} {w : World} {k : Int} {S : List Nat} {A0 : Option Addr} {c0 : Nat} {A1 : Option Addr} {c1 : Nat} {A2 : Option Addr} {c2 : Nat} (hO : tSpace.O w [.slice A0 x.Images.length c0, .slice A1 x.Bases.length c1, .slice A2 x.Entries.length c2] x S) (hS : S.Nodup) (h00 : 0 < k) (h01 : k + (cntSpace x : Nat) ≤ 1099511627776) : Calls Try.prog 22 #[.agg #[.slice A0 x.Images.length c0, .slice A1 x.Bases.length c1, .slice A2 x.Entries.length c2], .int .i64 k] w fun e w' => e = .returned (.int .i64 (k + (cntSpace x : Nat))) ∧ tSpace.O w' [.slice A0 x.Images.length c0, .slice A1 x.Bases.length c1, .slice A2 x.Entries.length c2] (mkSpace x k) S ∧ OnlyS S w w' := by
  obtain ⟨A0', c0', S0, A1', c1', S1, A2', c2', S2, hcl, rfl, h0, h1, h2⟩ := tSpace_O hO
  simp only [List.cons.injEq, Value.slice.injEq, true_and, and_true] at hcl
  obtain ⟨⟨rfl, rfl⟩, ⟨rfl, rfl⟩, ⟨rfl, rfl⟩⟩ := hcl
  have hlt := Ty.ltO _ hO
  unfold cntSpace at h01 ⊢
  obtain ⟨hN0, hN1, hN2, hD01, hD02, hD10, hD12, hD20, hD21⟩ := nd3 hS
  have hO0 := h0
  have hL0 := Ty.ltO _ hO0
  have hO1 := h1
  have hL1 := Ty.ltO _ hO1
  have hO2 := h2
  have hL2 := Ty.ltO _ hO2
  go_enter Try.func22, Try.ntmps22
  go_wp2_with (fail)
  refine (markImageS_l (xs := x.Images) (Ty.groO _ hO0 (by repeat (first | with_reducible exact Gro.refl _ | with_reducible exact Gro.refl_drew _ _ _ | with_reducible exact Gro.refl_drewN _ _ _ _ | assumption | with_reducible apply Gro.more | with_reducible apply Gro.alloc | with_reducible apply Gro.drew | with_reducible apply Gro.drewN))) hN0 (by omega) (by omega)).mono ?_
  rintro e w1 ⟨rfl, hM0, hs1⟩
  have hO1_0 := keepOnly _ hO1 hs1 (by repeat (first | with_reducible exact Gro.refl _ | with_reducible exact Gro.refl_drew _ _ _ | with_reducible exact Gro.refl_drewN _ _ _ _ | assumption | with_reducible apply Gro.more | with_reducible apply Gro.alloc | with_reducible apply Gro.drew | with_reducible apply Gro.drewN)) hD10
  have hO2_0 := keepOnly _ hO2 hs1 (by repeat (first | with_reducible exact Gro.refl _ | with_reducible exact Gro.refl_drew _ _ _ | with_reducible exact Gro.refl_drewN _ _ _ _ | assumption | with_reducible apply Gro.more | with_reducible apply Gro.alloc | with_reducible apply Gro.drew | with_reducible apply Gro.drewN)) hD20
  have hc1_0 : w1.cell? ⟨w.heap.size, 0, none⟩ = some (.slice A0 x.Images.length c0) := (hs1.cell (by simp) (fun hm => by have := hL0 _ hm; omega) 0).trans (by simp [go_sem])
  have hc1_1 : w1.cell? ⟨w.heap.size, 1, none⟩ = some (.slice A1 x.Bases.length c1) := (hs1.cell (by simp) (fun hm => by have := hL0 _ hm; omega) 1).trans (by simp [go_sem])
  have hc1_2 : w1.cell? ⟨w.heap.size, 2, none⟩ = some (.slice A2 x.Entries.length c2) := (hs1.cell (by simp) (fun hm => by have := hL0 _ hm; omega) 2).trans (by simp [go_sem])
  have hcb1 : w.heap.size < w1.heap.size := Nat.lt_of_lt_of_le (by simp) hs1.size
  go_wp2_with (fail)
  refine (markIntS_l (xs := x.Bases) (Ty.groO _ hO1_0 (by repeat (first | with_reducible exact Gro.refl _ | with_reducible exact Gro.refl_drew _ _ _ | with_reducible exact Gro.refl_drewN _ _ _ _ | assumption | with_reducible apply Gro.more | with_reducible apply Gro.alloc | with_reducible apply Gro.drew | with_reducible apply Gro.drewN))) hN1 (by omega) (by omega)).mono ?_
  rintro e w2 ⟨rfl, hM1, hs2⟩
  have hM0_1 := keepOnly _ hM0 hs2 (by repeat (first | with_reducible exact Gro.refl _ | with_reducible exact Gro.refl_drew _ _ _ | with_reducible exact Gro.refl_drewN _ _ _ _ | assumption | with_reducible apply Gro.more | with_reducible apply Gro.alloc | with_reducible apply Gro.drew | with_reducible apply Gro.drewN)) hD01
  replace hM0 := hM0_1
  have hO2_0_1 := keepOnly _ hO2_0 hs2 (by repeat (first | with_reducible exact Gro.refl _ | with_reducible exact Gro.refl_drew _ _ _ | with_reducible exact Gro.refl_drewN _ _ _ _ | assumption | with_reducible apply Gro.more | with_reducible apply Gro.alloc | with_reducible apply Gro.drew | with_reducible apply Gro.drewN)) hD21
  have hc2_0 : w2.cell? ⟨w.heap.size, 0, none⟩ = some (.slice A0 x.Images.length c0) := (hs2.cell hcb1 (fun hm => by have := hL1 _ hm; omega) 0).trans hc1_0
  have hc2_1 : w2.cell? ⟨w.heap.size, 1, none⟩ = some (.slice A1 x.Bases.length c1) := (hs2.cell hcb1 (fun hm => by have := hL1 _ hm; omega) 1).trans hc1_1
  have hc2_2 : w2.cell? ⟨w.heap.size, 2, none⟩ = some (.slice A2 x.Entries.length c2) := (hs2.cell hcb1 (fun hm => by have := hL1 _ hm; omega) 2).trans hc1_2
  have hcb2 : w.heap.size < w2.heap.size := Nat.lt_of_lt_of_le hcb1 hs2.size
  clear hc1_0 hc1_1 hc1_2
  go_wp2_with (fail)
  refine (markIntS_l (xs := x.Entries) (Ty.groO _ hO2_0_1 (by repeat (first | with_reducible exact Gro.refl _ | with_reducible exact Gro.refl_drew _ _ _ | with_reducible exact Gro.refl_drewN _ _ _ _ | assumption | with_reducible apply Gro.more | with_reducible apply Gro.alloc | with_reducible apply Gro.drew | with_reducible apply Gro.drewN))) hN2 (by omega) (by omega)).mono ?_
  rintro e w3 ⟨rfl, hM2, hs3⟩
  have hM0_2 := keepOnly _ hM0 hs3 (by repeat (first | with_reducible exact Gro.refl _ | with_reducible exact Gro.refl_drew _ _ _ | with_reducible exact Gro.refl_drewN _ _ _ _ | assumption | with_reducible apply Gro.more | with_reducible apply Gro.alloc | with_reducible apply Gro.drew | with_reducible apply Gro.drewN)) hD02
  replace hM0 := hM0_2
  have hM1_2 := keepOnly _ hM1 hs3 (by repeat (first | with_reducible exact Gro.refl _ | with_reducible exact Gro.refl_drew _ _ _ | with_reducible exact Gro.refl_drewN _ _ _ _ | assumption | with_reducible apply Gro.more | with_reducible apply Gro.alloc | with_reducible apply Gro.drew | with_reducible apply Gro.drewN)) hD12
  replace hM1 := hM1_2
  go_wp2
  go_ret
  refine ⟨ret_int (by push_cast; omega), ?_, ((((Gro.only (by repeat (first | with_reducible exact Gro.refl _ | with_reducible exact Gro.refl_drew _ _ _ | with_reducible exact Gro.refl_drewN _ _ _ _ | assumption | with_reducible apply Gro.more | with_reducible apply Gro.alloc | with_reducible apply Gro.drew | with_reducible apply Gro.drewN)) _).trans (hs1.mono (fun b hb => by simp [hb]))).trans (hs2.mono (fun b hb => by simp [hb]))).trans (hs3.mono (fun b hb => by simp [hb])))⟩
  have h := tSpace_mkOd (w := w3) (x := mkSpace x k) (by simpa [mkSpace, mkImageS_length, mkInts_length] using hM0) (by simpa [mkSpace, mkImageS_length, mkInts_length] using hM1) (by simpa [mkSpace, mkImageS_length, mkInts_length] using hM2)
  simpa [mkSpace, mkImageS_length, mkInts_length] using h
set_option maxRecDepth 100000 in
theorem heldSpace_l {x : DSpace} {w : World} {k : Int} {A0 : Option Addr} {c0 : Nat} {A1 : Option Addr} {c1 : Nat} {A2 : Option Addr} {c2 : Nat} (h0 : (tImage.sl 96).R w w.heap.size [.slice A0 x.Images.length c0] (mkSpace x k).Images) (h1 : (intT.sl 3).R w w.heap.size [.slice A1 x.Bases.length c1] (mkSpace x k).Bases) (h2 : (intT.sl 3).R w w.heap.size [.slice A2 x.Entries.length c2] (mkSpace x k).Entries) (h00 : 0 < k) (h01 : k + (cntSpace x : Nat) ≤ 1099511627776) : Calls Try.prog 62 #[.agg #[.slice A0 x.Images.length c0, .slice A1 x.Bases.length c1, .slice A2 x.Entries.length c2], .int .i64 k] w fun e w' => e = .returned (.int .i64 (k + (cntSpace x : Nat))) ∧ Gro w w' := by
  unfold cntSpace at h01 ⊢
  go_enter Try.func62, Try.ntmps62
  go_wp2_with (fail)
  refine (heldImageS_l (xs := x.Images) (Ty.up _ h0 (by repeat (first | with_reducible exact Gro.refl _ | with_reducible exact Gro.refl_drew _ _ _ | with_reducible exact Gro.refl_drewN _ _ _ _ | assumption | with_reducible apply Gro.more | with_reducible apply Gro.alloc | with_reducible apply Gro.drew | with_reducible apply Gro.drewN))) (by omega) (by omega)).mono ?_
  rintro e w1 ⟨rfl, os1, d1, rfl⟩
  go_wp2_with (fail)
  refine (heldIntS_l (xs := x.Bases) (Nat.le_refl _) (Ty.up _ h1 (by repeat (first | with_reducible exact Gro.refl _ | with_reducible exact Gro.refl_drew _ _ _ | with_reducible exact Gro.refl_drewN _ _ _ _ | assumption | with_reducible apply Gro.more | with_reducible apply Gro.alloc | with_reducible apply Gro.drew | with_reducible apply Gro.drewN))) (by omega) (by omega)).mono ?_
  rintro e w2 ⟨rfl, os2, d2, rfl⟩
  go_wp2_with (fail)
  refine (heldIntS_l (xs := x.Entries) (Nat.le_refl _) (Ty.up _ h2 (by repeat (first | with_reducible exact Gro.refl _ | with_reducible exact Gro.refl_drew _ _ _ | with_reducible exact Gro.refl_drewN _ _ _ _ | assumption | with_reducible apply Gro.more | with_reducible apply Gro.alloc | with_reducible apply Gro.drew | with_reducible apply Gro.drewN))) (by omega) (by omega)).mono ?_
  rintro e w3 ⟨rfl, os3, d3, rfl⟩
  go_wp2
  go_ret
  exact ⟨ret_int (by push_cast; omega), (by repeat (first | with_reducible exact Gro.refl _ | with_reducible exact Gro.refl_drew _ _ _ | with_reducible exact Gro.refl_drewN _ _ _ _ | assumption | with_reducible apply Gro.more | with_reducible apply Gro.alloc | with_reducible apply Gro.drew | with_reducible apply Gro.drewN))⟩
end Go.Proofs.Ytbhobjepjaeffaa
namespace Go.Proofs.Ytbhobjepjaeffaa
open Go.RowKit
theorem imgF_at {code : ByteArray} {l : List DSymbol} {j a : Nat} {x : DSymbol} {prev : List ByteArray} (h : l[j]? = some x) : imgF code (l.drop j) prev a = (decide (x.Start = (a : Int)) && decide (1 ≤ x.Size) && decide (x.Size ≤ (code.size : Int) - a) && nameOk x.Name && !prev.any (fun y => decide (y = x.Name)) && disOk (code.extract a (a + x.Size.toNat)) 0 && imgF code (l.drop (j + 1)) (prev ++ [x.Name]) (a + x.Size.toNat)) := by
  have hl := (List.getElem?_eq_some_iff.1 h)
  obtain ⟨hl, rfl⟩ := hl
  rw [List.drop_eq_getElem_cons hl]
  rfl
theorem names_take {l : List DSymbol} {j : Nat} {x : DSymbol} (h : l[j]? = some x) : (l.take (j + 1)).map DSymbol.Name = (l.take j).map DSymbol.Name ++ [x.Name] := by
  rw [take_snoc h, List.map_append]
  rfl
set_option maxRecDepth 100000 in
set_option maxHeartbeats 4000000 in
theorem imageOk_i {i : DImage} {w : World} {A : Option Addr} {c : Nat} (h1 : (tSymbol.sl 118).R w w.heap.size [.slice A i.Symbols.length c] i.Symbols) (hs : i.Code.size ≤ 1099511627776) (hn : i.Symbols.length ≤ 1099511627776) :
    Calls Try.prog 85 #[.agg #[.string i.Code, .slice A i.Symbols.length c]] w fun e w' => e = .returned (.bool (imageOk i)) ∧ Gro w w' := by
  obtain ⟨_, _, hx', hxl, hcm⟩ := sl_at h1
  injection hx' with e1 e2 e3
  subst e1 e3
  clear e2
  obtain ⟨code, syms⟩ := i
  simp only at h1 hs hn hxl hcm ⊢
  by_cases hbig : code.size ≤ 1000000
  case neg =>
    have HQ := Lib.hid (show imageOk ⟨code, syms⟩ = false from by simp [imageOk, hbig])
    have hg : decide ((1000000 : Int) < (code.size : Int)) = true := decide_eq_true (by omega)
    go_enter Try.func85, Try.ntmps85
    go_wp2_with (fail)
    go_ret
    exact ⟨ret_bool HQ.out.symm, (by repeat (first | with_reducible exact Gro.refl _ | with_reducible exact Gro.refl_drew _ _ _ | with_reducible exact Gro.refl_drewN _ _ _ _ | assumption | with_reducible apply Gro.more | with_reducible apply Gro.alloc | with_reducible apply Gro.drew | with_reducible apply Gro.drewN))⟩
  have HQ := Lib.hid (show imageOk ⟨code, syms⟩ = imgF code syms [] 0 from by simp [imageOk, hbig])
  have hg : decide ((1000000 : Int) < (code.size : Int)) = false := decide_eq_false (by omega)
  go_enter Try.func85, Try.ntmps85
  go_wp2_with (fail)
  have hG0 : Gro w (w.alloc (.cells #[.string code, .slice A syms.length c] 96)) := (by repeat (first | with_reducible exact Gro.refl _ | with_reducible exact Gro.refl_drew _ _ _ | with_reducible exact Gro.refl_drewN _ _ _ _ | assumption | with_reducible apply Gro.more | with_reducible apply Gro.alloc | with_reducible apply Gro.drew | with_reducible apply Gro.drewN))
  have eb := heap_alloc_new w (.cells #[.string code, .slice A syms.length c] 96)
  have h2 := Ty.up _ h1 hG0
  obtain ⟨g0, hg0⟩ : ∃ g0, w.heap.size = g0 := ⟨_, rfl⟩
  rw [hg0] at eb ⊢
  generalize w.alloc (.cells #[.string code, .slice A syms.length c] 96) = Y at hG0 eb h2 ⊢
  clear h1 hg0
  obtain ⟨y0, y1, _, _, yl⟩ := box2 eb
  go_loopw [3, 17] (fun x y wr => ∃ (j a : Nat), x = .int .i64 a ∧ y = .int .i64 j ∧ j ≤ syms.length ∧ a ≤ code.size ∧ Hid (imgF code (syms.drop j) ((syms.take j).map DSymbol.Name) a = imgF code syms [] 0) ∧ Hid (Gro Y wr)) (fun _ y _ => syms.length - (intOf y).toNat)
  case atStart => exact ⟨0, 0, rfl, rfl, Nat.zero_le _, Nat.zero_le _, Lib.hid rfl, Lib.hid (Gro.refl _)⟩
  case round =>
    obtain ⟨j, a, rfl, rfl, hj, ha, hE, hG⟩ := hrel
    obtain ⟨os, d, rfl⟩ := hG.out
    clear hG
    by_cases hlt : j < syms.length
    · obtain ⟨g, off, x, rfl, hgb, hxk, hx0, hx1, hx2, bx0, bx1, bx2⟩ := atSymbol h2 hlt
      have hF := imgF_at (code := code) (a := a) (prev := (syms.take j).map DSymbol.Name) hxk
      rw [hE.out] at hF
      have HNT := Lib.hid (names_take hxk)
      have hc0 := gro_keeps hx0 os d
      have hc1 := gro_keeps hx1 os d
      have hc2 := gro_keeps hx2 os d
      have z0 := gro_keeps y0 os d
      have z1 := gro_keeps y1 os d
      have hji : (j : Int) < (syms.length : Int) := by omega
      clear hE
      obtain ⟨nm, st, sz⟩ := x
      simp only at hF hx0 hx1 hx2 bx0 bx1 bx2 hc0 hc1 hc2 HNT
      by_cases q1 : st = (a : Int)
      case neg =>
        have HF := Lib.hid (show imgF code syms [] 0 = false from by rw [hF]; simp [q1])
        have p1 : (st != (a : Int)) = true := by simp [q1]
        clear hF
        go_wp2_with (fail)
        go_ret
        exact ⟨ret_bool (by rw [HQ.out, HF.out]), hG0.trans (by (repeat (first | with_reducible exact Gro.refl _ | with_reducible exact Gro.refl_drew _ _ _ | with_reducible exact Gro.refl_drewN _ _ _ _ | assumption | with_reducible apply Gro.more | with_reducible apply Gro.alloc | with_reducible apply Gro.drew | with_reducible apply Gro.drewN)); done)⟩
      subst q1
      have p1 : (((a : Nat) : Int) != (a : Int)) = false := by simp
      by_cases q2 : 1 ≤ sz
      case neg =>
        have HF := Lib.hid (show imgF code syms [] 0 = false from by rw [hF]; simp [q2])
        have p2 : decide (sz < 1) = true := decide_eq_true (by omega)
        clear hF
        go_wp2_with (fail)
        go_ret
        exact ⟨ret_bool (by rw [HQ.out, HF.out]), hG0.trans (by (repeat (first | with_reducible exact Gro.refl _ | with_reducible exact Gro.refl_drew _ _ _ | with_reducible exact Gro.refl_drewN _ _ _ _ | assumption | with_reducible apply Gro.more | with_reducible apply Gro.alloc | with_reducible apply Gro.drew | with_reducible apply Gro.drewN)); done)⟩
      have p2 : decide (sz < 1) = false := decide_eq_false (by omega)
      by_cases q3 : sz ≤ (code.size : Int) - a
      case neg =>
        have HF := Lib.hid (show imgF code syms [] 0 = false from by rw [hF]; simp [q3])
        have p3 : decide ((code.size : Int) - a < sz) = true := decide_eq_true (by omega)
        clear hF
        go_wp2_with (fail)
        go_ret
        exact ⟨ret_bool (by rw [HQ.out, HF.out]), hG0.trans (by (repeat (first | with_reducible exact Gro.refl _ | with_reducible exact Gro.refl_drew _ _ _ | with_reducible exact Gro.refl_drewN _ _ _ _ | assumption | with_reducible apply Gro.more | with_reducible apply Gro.alloc | with_reducible apply Gro.drew | with_reducible apply Gro.drewN)); done)⟩
      have p3 : decide ((code.size : Int) - a < sz) = false := decide_eq_false (by omega)
      obtain ⟨z, rfl⟩ := Int.eq_ofNat_of_zero_le (show 0 ≤ sz by omega)
      cases q4 : nameOk nm
      case false =>
        have HF := Lib.hid (show imgF code syms [] 0 = false from by rw [hF]; simp [q4])
        have HN := Lib.hid q4
        clear hF q4
        go_wp2_with (go_at_call 112; (with_reducible refine (nameOk_i nm _ bx0).mono ?_); rw [HN.out]; rintro e w1 ⟨rfl, rfl⟩)
        go_ret
        exact ⟨ret_bool (by rw [HQ.out, HF.out]), hG0.trans (by (repeat (first | with_reducible exact Gro.refl _ | with_reducible exact Gro.refl_drew _ _ _ | with_reducible exact Gro.refl_drewN _ _ _ _ | assumption | with_reducible apply Gro.more | with_reducible apply Gro.alloc | with_reducible apply Gro.drew | with_reducible apply Gro.drewN)); done)⟩
      have HN := Lib.hid q4
      have hF2 : imgF code syms [] 0 = (!((syms.take j).map DSymbol.Name).any (fun y => decide (y = nm)) && disOk (code.extract a (a + z)) 0 && imgF code (syms.drop (j + 1)) ((syms.take (j + 1)).map DSymbol.Name) (a + z)) := by
        rw [hF, HNT.out, q4]
        simp [q2, q3]
      have HF2 := Lib.hid hF2
      clear hF hF2 q4 HNT
      go_wp2_with (go_at_call 112; (with_reducible refine (nameOk_i nm _ bx0).mono ?_); rw [HN.out]; rintro e w1 ⟨rfl, rfl⟩)
      have hGV : Gro Y ((gro Y os d).alloc (.cells #[.string nm, .int .i64 (a : Int), .int .i64 (z : Int)] 118)) := (by repeat (first | with_reducible exact Gro.refl _ | with_reducible exact Gro.refl_drew _ _ _ | with_reducible exact Gro.refl_drewN _ _ _ _ | assumption | with_reducible apply Gro.more | with_reducible apply Gro.alloc | with_reducible apply Gro.drew | with_reducible apply Gro.drewN))
      have es := heap_alloc_new (gro Y os d) (.cells #[.string nm, .int .i64 (a : Int), .int .i64 (z : Int)] 118)
      obtain ⟨gs, hgs⟩ : ∃ gs, (gro Y os d).heap.size = gs := ⟨_, rfl⟩
      rw [hgs] at es
      rw [gro_size] at hgs
      rw [hgs]
      generalize (gro Y os d).alloc (.cells #[.string nm, .int .i64 (a : Int), .int .i64 (z : Int)] 118) = V at hGV es ⊢
      have hc := fun k => cell_of_row V gs k _ _ (0, 0) es
      have v0 : V.cell? ⟨gs, 0, none⟩ = some (.string nm) := hc 0
      have v1 : V.cell? ⟨gs, 1, none⟩ = some (.int .i64 (a : Int)) := hc 1
      have v2 : V.cell? ⟨gs, 2, none⟩ = some (.int .i64 (z : Int)) := hc 2
      have u0 := cell_up hGV y0
      have u1 := cell_up hGV y1
      have h3 := Ty.up _ h2 hGV
      have vl : gs < V.heap.size := (Array.getElem?_eq_some_iff.1 es).1
      have ul : g0 < V.heap.size := Nat.lt_of_lt_of_le yl hGV.size
      clear hc es hc0 hc1 hc2 z0 z1 hx0 hx1 hx2 p1 p2 p3 hgs
      have hjn : (j : Int) ≤ (syms.length : Int) := by omega
      have hjc : (j : Int) ≤ (c : Int) := by omega
      go_loopw [52] (fun y we => ∃ m : Nat, y = .int .i64 m ∧ m ≤ j ∧ Hid (∀ (i : Nat) (y : DSymbol), i < m → syms[i]? = some y → y.Name ≠ nm) ∧ Hid (Gro V we)) (fun y _ => j - (intOf y).toNat)
      case atStart => exact ⟨0, rfl, Nat.zero_le _, Lib.hid (fun i y h => absurd h (Nat.not_lt_zero _)), Lib.hid (Gro.refl _)⟩
      case round =>
        obtain ⟨m, rfl, hm, hne, hG⟩ := hrel
        obtain ⟨os2, d2, rfl⟩ := hG.out
        clear hG
        by_cases hml : m < j
        · obtain ⟨g2, off2, y, hAe, hgb2, hyk, hy0, hy1, hy2, by0, by1, by2⟩ := atSymbol h3 (k := m) (by omega)
          injection hAe with hAe
          injection hAe with e1 e2
          subst e1 e2
          have hmi : (m : Int) < (j : Int) := by omega
          have k0 := gro_keeps hy0 os2 d2
          have k1 := gro_keeps hy1 os2 d2
          have k2 := gro_keeps hy2 os2 d2
          have r0 := gro_keeps v0 os2 d2
          obtain ⟨yn, ys, yz⟩ := y
          simp only at k0 k1 k2 hyk
          by_cases he : yn = nm
          · subst he
            have HF := Lib.hid (show imgF code syms [] 0 = false from by
              rw [HF2.out]
              have : yn ∈ (syms.take j).map DSymbol.Name := List.mem_map.2 ⟨_, List.mem_of_getElem? (i := m) (by rw [List.getElem?_take, if_pos hml]; exact hyk), rfl⟩
              have hct : ((syms.take j).map DSymbol.Name).any (fun y => decide (y = yn)) = true := List.any_eq_true.2 ⟨yn, this, by simp⟩
              rw [hct]
              rfl)
            clear hyk
            go_wp2_with (fail)
            go_ret
            exact ⟨ret_bool (by rw [HQ.out, HF.out]), (hG0.trans hGV).trans (by (repeat (first | with_reducible exact Gro.refl _ | with_reducible exact Gro.refl_drew _ _ _ | with_reducible exact Gro.refl_drewN _ _ _ _ | assumption | with_reducible apply Gro.more | with_reducible apply Gro.alloc | with_reducible apply Gro.drew | with_reducible apply Gro.drewN)); done)⟩
          · have hnb : (yn.toList == nm.toList) = false := by rw [str_eqb, decide_eq_false he]
            have HE := Lib.hid he
            have HYK := Lib.hid hyk
            clear he hyk
            go_wp2_with (fail)
            go_roundw
            case measure => (simp [intOf]; try omega)
            case rel => exact ⟨m + 1, by go_num, by omega, Lib.hid (fun i y hi hy => by
              by_cases him : i = m
              · subst him
                rw [HYK.out] at hy
                cases hy
                exact HE.out
              · exact hne.out i y (by omega) hy), Lib.hid (by repeat (first | with_reducible exact Gro.refl _ | with_reducible exact Gro.refl_drew _ _ _ | with_reducible exact Gro.refl_drewN _ _ _ _ | assumption | with_reducible apply Gro.more | with_reducible apply Gro.alloc | with_reducible apply Gro.drew | with_reducible apply Gro.drewN))⟩
        · obtain rfl : m = j := by omega
          have u0' := gro_keeps u0 os2 d2
          have u1' := gro_keeps u1 os2 d2
          have v1' := gro_keeps v1 os2 d2
          have v2' := gro_keeps v2 os2 d2
          have hnc : ((syms.take m).map DSymbol.Name).any (fun y => decide (y = nm)) = false := by
            cases hcc : ((syms.take m).map DSymbol.Name).any (fun y => decide (y = nm))
            · rfl
            · obtain ⟨yn, hyn, hye2⟩ := List.any_eq_true.1 hcc
              obtain ⟨y, hy, hye⟩ := List.mem_map.1 hyn
              have hye : y.Name = nm := hye.trans (by simpa using hye2)
              obtain ⟨i, hi⟩ := List.mem_iff_getElem?.1 hy
              have him : i < m := by
                have := (List.getElem?_eq_some_iff.1 hi).1
                rw [List.length_take] at this
                omega
              rw [List.getElem?_take, if_pos him] at hi
              exact absurd hye (hne.out i y him hi)
          have hF3 := HF2.out
          rw [hnc] at hF3
          simp only [Bool.not_false, Bool.true_and] at hF3
          clear hne HF2
          have hsub : (code.extract a (a + z)).size ≤ 1099511627776 := by rw [ByteArray.size_extract]; omega
          obtain ⟨b, hb⟩ : ∃ b, disOk (code.extract a (a + z)) 0 = b := ⟨_, rfl⟩
          rw [hb] at hF3
          have HB := Lib.hid hb
          have w1 : IntKind.i64.wrap ((a : Int) + (z : Int)) = (a : Int) + (z : Int) := IntWalk.i64_in _ (by omega)
          have w2 : (a : Int) + (z : Int) ≤ (code.size : Int) := by omega
          have w3 : (a : Int) ≤ (a : Int) + (z : Int) := by omega
          have w4 : (0 : Int) ≤ (a : Int) + (z : Int) := by omega
          clear hb
          cases b with
          | false =>
            have HF := Lib.hid (show imgF code syms [] 0 = false from by rw [hF3]; rfl)
            clear hF3
            go_wp2_with (go_at_call 113; (with_reducible refine (dis_i (code.extract a (a + z)) _ hsub).mono ?_); rw [HB.out]; rintro e w4 ⟨A4, n4, c4, rfl, os4, d4, rfl⟩)
            go_ret
            exact ⟨ret_bool (by rw [HQ.out, HF.out]), (hG0.trans hGV).trans (by (repeat (first | with_reducible exact Gro.refl _ | with_reducible exact Gro.refl_drew _ _ _ | with_reducible exact Gro.refl_drewN _ _ _ _ | assumption | with_reducible apply Gro.more | with_reducible apply Gro.alloc | with_reducible apply Gro.drew | with_reducible apply Gro.drewN)); done)⟩
          | true =>
            have HF := Lib.hid (show imgF code (syms.drop (m + 1)) ((syms.take (m + 1)).map DSymbol.Name) (a + z) = imgF code syms [] 0 from by rw [hF3]; simp)
            clear hF3
            go_wp2_with (go_at_call 113; (with_reducible refine (dis_i (code.extract a (a + z)) _ hsub).mono ?_); rw [HB.out]; rintro e w4 ⟨A4, n4, c4, rfl, os4, d4, rfl⟩)
            go_roundw
            case measure => (simp [intOf]; try omega)
            case rel => exact ⟨m + 1, a + z, by go_num, by go_num, by omega, by omega, HF, Lib.hid (hGV.trans (by (repeat (first | with_reducible exact Gro.refl _ | with_reducible exact Gro.refl_drew _ _ _ | with_reducible exact Gro.refl_drewN _ _ _ _ | assumption | with_reducible apply Gro.more | with_reducible apply Gro.alloc | with_reducible apply Gro.drew | with_reducible apply Gro.drewN)); done))⟩
    · obtain rfl : j = syms.length := by omega
      have hEE := hE.out
      rw [List.drop_length] at hEE
      have HF := Lib.hid (show ((a : Int) == (code.size : Int)) = imgF code syms [] 0 from by
        rw [← hEE]
        simp only [imgF]
        by_cases h : a = code.size
        · simp [h]
        · simp [h]; omega)
      have z0 := gro_keeps y0 os d
      clear hE hEE
      go_wp2_with (fail)
      go_ret
      exact ⟨ret_bool (by rw [HQ.out, ← HF.out]), hG0.trans (by (repeat (first | with_reducible exact Gro.refl _ | with_reducible exact Gro.refl_drew _ _ _ | with_reducible exact Gro.refl_drewN _ _ _ _ | assumption | with_reducible apply Gro.more | with_reducible apply Gro.alloc | with_reducible apply Gro.drew | with_reducible apply Gro.drewN)); done)⟩
end Go.Proofs.Ytbhobjepjaeffaa
namespace Go.Proofs.Ytbhobjepjaeffaa
open Go.RowKit
set_option maxRecDepth 100000 in
set_option maxHeartbeats 4000000 in
theorem imageOk_s {i : DImage} {w : World} {A : Option Addr} {c : Nat} (h1 : (tSymbol.sl 118).R w w.heap.size [.slice A i.Symbols.length c] i.Symbols) (hs : i.Code.size ≤ 1099511627776) (hn : i.Symbols.length ≤ 1099511627776) :
    Calls Try.prog 81 #[.agg #[.string i.Code, .slice A i.Symbols.length c]] w fun e w' => e = .returned (.bool (imageOk i)) ∧ Gro w w' := by
  obtain ⟨_, _, hx', hxl, hcm⟩ := sl_at h1
  injection hx' with e1 e2 e3
  subst e1 e3
  clear e2
  obtain ⟨code, syms⟩ := i
  simp only at h1 hs hn hxl hcm ⊢
  have HQ := Lib.hid (show imageOk ⟨code, syms⟩ = (imgF code syms [] 0 && decide (code.size ≤ 1000000)) from by simp [imageOk, Bool.and_comm])
  go_enter Try.func81, Try.ntmps81
  go_wp2_with (fail)
  have hG0 : Gro w (w.alloc (.cells #[.string code, .slice A syms.length c] 96)) := (by repeat (first | with_reducible exact Gro.refl _ | with_reducible exact Gro.refl_drew _ _ _ | with_reducible exact Gro.refl_drewN _ _ _ _ | assumption | with_reducible apply Gro.more | with_reducible apply Gro.alloc | with_reducible apply Gro.drew | with_reducible apply Gro.drewN))
  have eb := heap_alloc_new w (.cells #[.string code, .slice A syms.length c] 96)
  have h2 := Ty.up _ h1 hG0
  obtain ⟨g0, hg0⟩ : ∃ g0, w.heap.size = g0 := ⟨_, rfl⟩
  rw [hg0] at eb ⊢
  generalize w.alloc (.cells #[.string code, .slice A syms.length c] 96) = Y at hG0 eb h2 ⊢
  clear h1 hg0
  obtain ⟨y0, y1, _, _, yl⟩ := box2 eb
  go_loopw [3, 4] (fun x y wr => ∃ (j a : Nat), x = .int .i64 a ∧ y = .int .i64 j ∧ j ≤ syms.length ∧ a ≤ code.size ∧ Hid (imgF code (syms.drop j) ((syms.take j).map DSymbol.Name) a = imgF code syms [] 0) ∧ Hid (Gro Y wr)) (fun _ y _ => syms.length - (intOf y).toNat)
  case atStart => exact ⟨0, 0, rfl, rfl, Nat.zero_le _, Nat.zero_le _, Lib.hid rfl, Lib.hid (Gro.refl _)⟩
  case round =>
    obtain ⟨j, a, rfl, rfl, hj, ha, hE, hG⟩ := hrel
    obtain ⟨os, d, rfl⟩ := hG.out
    clear hG
    by_cases hlt : j < syms.length
    · obtain ⟨g, off, x, rfl, hgb, hxk, hx0, hx1, hx2, bx0, bx1, bx2⟩ := atSymbol h2 hlt
      have hF := imgF_at (code := code) (a := a) (prev := (syms.take j).map DSymbol.Name) hxk
      rw [hE.out] at hF
      have HNT := Lib.hid (names_take hxk)
      have hc0 := gro_keeps hx0 os d
      have hc1 := gro_keeps hx1 os d
      have hc2 := gro_keeps hx2 os d
      have z0 := gro_keeps y0 os d
      have z1 := gro_keeps y1 os d
      have hji : (j : Int) < (syms.length : Int) := by omega
      clear hE
      obtain ⟨nm, st, sz⟩ := x
      simp only at hF hx0 hx1 hx2 bx0 bx1 bx2 hc0 hc1 hc2 HNT
      by_cases q1 : st = (a : Int)
      case neg =>
        have HF := Lib.hid (show imgF code syms [] 0 = false from by rw [hF]; simp [q1])
        have p1 : (st != (a : Int)) = true := by simp [q1]
        clear hF
        go_wp2_with (fail)
        go_ret
        exact ⟨ret_bool (by rw [HQ.out, HF.out]; rfl), hG0.trans (by (repeat (first | with_reducible exact Gro.refl _ | with_reducible exact Gro.refl_drew _ _ _ | with_reducible exact Gro.refl_drewN _ _ _ _ | assumption | with_reducible apply Gro.more | with_reducible apply Gro.alloc | with_reducible apply Gro.drew | with_reducible apply Gro.drewN)); done)⟩
      subst q1
      have p1 : (((a : Nat) : Int) != (a : Int)) = false := by simp
      by_cases q2 : 1 ≤ sz
      case neg =>
        have HF := Lib.hid (show imgF code syms [] 0 = false from by rw [hF]; simp [q2])
        have p2 : decide (sz < 1) = true := decide_eq_true (by omega)
        clear hF
        go_wp2_with (fail)
        go_ret
        exact ⟨ret_bool (by rw [HQ.out, HF.out]; rfl), hG0.trans (by (repeat (first | with_reducible exact Gro.refl _ | with_reducible exact Gro.refl_drew _ _ _ | with_reducible exact Gro.refl_drewN _ _ _ _ | assumption | with_reducible apply Gro.more | with_reducible apply Gro.alloc | with_reducible apply Gro.drew | with_reducible apply Gro.drewN)); done)⟩
      have p2 : decide (sz < 1) = false := decide_eq_false (by omega)
      by_cases q3 : sz ≤ (code.size : Int) - a
      case neg =>
        have HF := Lib.hid (show imgF code syms [] 0 = false from by rw [hF]; simp [q3])
        have p3 : decide ((code.size : Int) - a < sz) = true := decide_eq_true (by omega)
        clear hF
        go_wp2_with (fail)
        go_ret
        exact ⟨ret_bool (by rw [HQ.out, HF.out]; rfl), hG0.trans (by (repeat (first | with_reducible exact Gro.refl _ | with_reducible exact Gro.refl_drew _ _ _ | with_reducible exact Gro.refl_drewN _ _ _ _ | assumption | with_reducible apply Gro.more | with_reducible apply Gro.alloc | with_reducible apply Gro.drew | with_reducible apply Gro.drewN)); done)⟩
      have p3 : decide ((code.size : Int) - a < sz) = false := decide_eq_false (by omega)
      obtain ⟨z, rfl⟩ := Int.eq_ofNat_of_zero_le (show 0 ≤ sz by omega)
      cases q4 : nameOk nm
      case false =>
        have HF := Lib.hid (show imgF code syms [] 0 = false from by rw [hF]; simp [q4])
        have HN := Lib.hid q4
        clear hF q4
        go_wp2_with (go_at_call 110; (with_reducible refine (nameOk_s nm _ bx0).mono ?_); rw [HN.out]; rintro e w1 ⟨rfl, rfl⟩)
        go_ret
        exact ⟨ret_bool (by rw [HQ.out, HF.out]; rfl), hG0.trans (by (repeat (first | with_reducible exact Gro.refl _ | with_reducible exact Gro.refl_drew _ _ _ | with_reducible exact Gro.refl_drewN _ _ _ _ | assumption | with_reducible apply Gro.more | with_reducible apply Gro.alloc | with_reducible apply Gro.drew | with_reducible apply Gro.drewN)); done)⟩
      have HN := Lib.hid q4
      have hF2 : imgF code syms [] 0 = (!((syms.take j).map DSymbol.Name).any (fun y => decide (y = nm)) && disOk (code.extract a (a + z)) 0 && imgF code (syms.drop (j + 1)) ((syms.take (j + 1)).map DSymbol.Name) (a + z)) := by
        rw [hF, HNT.out, q4]
        simp [q2, q3]
      have HF2 := Lib.hid hF2
      clear hF hF2 q4 HNT
      go_wp2_with (go_at_call 110; (with_reducible refine (nameOk_s nm _ bx0).mono ?_); rw [HN.out]; rintro e w1 ⟨rfl, rfl⟩)
      have hGV : Gro Y ((gro Y os d).alloc (.cells #[.string nm, .int .i64 (a : Int), .int .i64 (z : Int)] 118)) := (by repeat (first | with_reducible exact Gro.refl _ | with_reducible exact Gro.refl_drew _ _ _ | with_reducible exact Gro.refl_drewN _ _ _ _ | assumption | with_reducible apply Gro.more | with_reducible apply Gro.alloc | with_reducible apply Gro.drew | with_reducible apply Gro.drewN))
      have es := heap_alloc_new (gro Y os d) (.cells #[.string nm, .int .i64 (a : Int), .int .i64 (z : Int)] 118)
      obtain ⟨gs, hgs⟩ : ∃ gs, (gro Y os d).heap.size = gs := ⟨_, rfl⟩
      rw [hgs] at es
      rw [gro_size] at hgs
      rw [hgs]
      generalize (gro Y os d).alloc (.cells #[.string nm, .int .i64 (a : Int), .int .i64 (z : Int)] 118) = V at hGV es ⊢
      have hc := fun k => cell_of_row V gs k _ _ (0, 0) es
      have v0 : V.cell? ⟨gs, 0, none⟩ = some (.string nm) := hc 0
      have v1 : V.cell? ⟨gs, 1, none⟩ = some (.int .i64 (a : Int)) := hc 1
      have v2 : V.cell? ⟨gs, 2, none⟩ = some (.int .i64 (z : Int)) := hc 2
      have u0 := cell_up hGV y0
      have u1 := cell_up hGV y1
      have h3 := Ty.up _ h2 hGV
      have vl : gs < V.heap.size := (Array.getElem?_eq_some_iff.1 es).1
      have ul : g0 < V.heap.size := Nat.lt_of_lt_of_le yl hGV.size
      clear hc es hc0 hc1 hc2 z0 z1 hx0 hx1 hx2 p1 p2 p3 hgs
      have hjn : (j : Int) ≤ (syms.length : Int) := by omega
      have hjc : (j : Int) ≤ (c : Int) := by omega
      go_loopw [6] (fun y we => ∃ m : Nat, y = .int .i64 m ∧ m ≤ j ∧ Hid (∀ (i : Nat) (y : DSymbol), i < m → syms[i]? = some y → y.Name ≠ nm) ∧ Hid (Gro V we)) (fun y _ => j - (intOf y).toNat)
      case atStart => exact ⟨0, rfl, Nat.zero_le _, Lib.hid (fun i y h => absurd h (Nat.not_lt_zero _)), Lib.hid (Gro.refl _)⟩
      case round =>
        obtain ⟨m, rfl, hm, hne, hG⟩ := hrel
        obtain ⟨os2, d2, rfl⟩ := hG.out
        clear hG
        by_cases hml : m < j
        · obtain ⟨g2, off2, y, hAe, hgb2, hyk, hy0, hy1, hy2, by0, by1, by2⟩ := atSymbol h3 (k := m) (by omega)
          injection hAe with hAe
          injection hAe with e1 e2
          subst e1 e2
          have hmi : (m : Int) < (j : Int) := by omega
          have hmi2 : (m : Int) < (syms.length : Int) := by omega
          have u1' := gro_keeps u1 os2 d2
          have k0 := gro_keeps hy0 os2 d2
          have k1 := gro_keeps hy1 os2 d2
          have k2 := gro_keeps hy2 os2 d2
          have r0 := gro_keeps v0 os2 d2
          obtain ⟨yn, ys, yz⟩ := y
          simp only at k0 k1 k2 hyk
          by_cases he : yn = nm
          · subst he
            have HF := Lib.hid (show imgF code syms [] 0 = false from by
              rw [HF2.out]
              have : yn ∈ (syms.take j).map DSymbol.Name := List.mem_map.2 ⟨_, List.mem_of_getElem? (i := m) (by rw [List.getElem?_take, if_pos hml]; exact hyk), rfl⟩
              have hct : ((syms.take j).map DSymbol.Name).any (fun y => decide (y = yn)) = true := List.any_eq_true.2 ⟨yn, this, by simp⟩
              rw [hct]
              rfl)
            clear hyk
            go_wp2_with (fail)
            go_quiet (fail)
            go_wp2_with (fail)
            go_ret
            exact ⟨ret_bool (by rw [HQ.out, HF.out]; rfl), (hG0.trans hGV).trans (by (repeat (first | with_reducible exact Gro.refl _ | with_reducible exact Gro.refl_drew _ _ _ | with_reducible exact Gro.refl_drewN _ _ _ _ | assumption | with_reducible apply Gro.more | with_reducible apply Gro.alloc | with_reducible apply Gro.drew | with_reducible apply Gro.drewN)); done)⟩
          · have hnb : (yn.toList == nm.toList) = false := by rw [str_eqb, decide_eq_false he]
            have HE := Lib.hid he
            have HYK := Lib.hid hyk
            clear he hyk
            go_wp2_with (fail)
            go_quiet (fail)
            go_wp2_with (fail)
            go_roundw
            case measure => (simp [intOf]; try omega)
            case rel => exact ⟨m + 1, by go_num, by omega, Lib.hid (fun i y hi hy => by
              by_cases him : i = m
              · subst him
                rw [HYK.out] at hy
                cases hy
                exact HE.out
              · exact hne.out i y (by omega) hy), Lib.hid (by repeat (first | with_reducible exact Gro.refl _ | with_reducible exact Gro.refl_drew _ _ _ | with_reducible exact Gro.refl_drewN _ _ _ _ | assumption | with_reducible apply Gro.more | with_reducible apply Gro.alloc | with_reducible apply Gro.drew | with_reducible apply Gro.drewN))⟩
        · obtain rfl : m = j := by omega
          have u0' := gro_keeps u0 os2 d2
          have u1' := gro_keeps u1 os2 d2
          have v1' := gro_keeps v1 os2 d2
          have v2' := gro_keeps v2 os2 d2
          have hnc : ((syms.take m).map DSymbol.Name).any (fun y => decide (y = nm)) = false := by
            cases hcc : ((syms.take m).map DSymbol.Name).any (fun y => decide (y = nm))
            · rfl
            · obtain ⟨yn, hyn, hye2⟩ := List.any_eq_true.1 hcc
              obtain ⟨y, hy, hye⟩ := List.mem_map.1 hyn
              have hye : y.Name = nm := hye.trans (by simpa using hye2)
              obtain ⟨i, hi⟩ := List.mem_iff_getElem?.1 hy
              have him : i < m := by
                have := (List.getElem?_eq_some_iff.1 hi).1
                rw [List.length_take] at this
                omega
              rw [List.getElem?_take, if_pos him] at hi
              exact absurd hye (hne.out i y him hi)
          have hF3 := HF2.out
          rw [hnc] at hF3
          simp only [Bool.not_false, Bool.true_and] at hF3
          clear hne HF2
          have hsub : (code.extract a (a + z)).size ≤ 1099511627776 := by rw [ByteArray.size_extract]; omega
          obtain ⟨b, hb⟩ : ∃ b, disOk (code.extract a (a + z)) 0 = b := ⟨_, rfl⟩
          rw [hb] at hF3
          have HB := Lib.hid hb
          have w1 : IntKind.i64.wrap ((a : Int) + (z : Int)) = (a : Int) + (z : Int) := IntWalk.i64_in _ (by omega)
          have w2 : (a : Int) + (z : Int) ≤ (code.size : Int) := by omega
          have w3 : (a : Int) ≤ (a : Int) + (z : Int) := by omega
          have w4 : (0 : Int) ≤ (a : Int) + (z : Int) := by omega
          clear hb
          cases b with
          | false =>
            have HF := Lib.hid (show imgF code syms [] 0 = false from by rw [hF3]; rfl)
            clear hF3
            go_wp2_with (go_at_call 111; (with_reducible refine (dis_s (code.extract a (a + z)) _ hsub).mono ?_); rw [HB.out]; rintro e w4 ⟨A4, n4, c4, rfl, os4, d4, rfl⟩)
            go_ret
            exact ⟨ret_bool (by rw [HQ.out, HF.out]; rfl), (hG0.trans hGV).trans (by (repeat (first | with_reducible exact Gro.refl _ | with_reducible exact Gro.refl_drew _ _ _ | with_reducible exact Gro.refl_drewN _ _ _ _ | assumption | with_reducible apply Gro.more | with_reducible apply Gro.alloc | with_reducible apply Gro.drew | with_reducible apply Gro.drewN)); done)⟩
          | true =>
            have HF := Lib.hid (show imgF code (syms.drop (m + 1)) ((syms.take (m + 1)).map DSymbol.Name) (a + z) = imgF code syms [] 0 from by rw [hF3]; simp)
            clear hF3
            go_wp2_with (go_at_call 111; (with_reducible refine (dis_s (code.extract a (a + z)) _ hsub).mono ?_); rw [HB.out]; rintro e w4 ⟨A4, n4, c4, rfl, os4, d4, rfl⟩)
            go_roundw
            case measure => (simp [intOf]; try omega)
            case rel => exact ⟨m + 1, a + z, by go_num, by go_num, by omega, by omega, HF, Lib.hid (hGV.trans (by (repeat (first | with_reducible exact Gro.refl _ | with_reducible exact Gro.refl_drew _ _ _ | with_reducible exact Gro.refl_drewN _ _ _ _ | assumption | with_reducible apply Gro.more | with_reducible apply Gro.alloc | with_reducible apply Gro.drew | with_reducible apply Gro.drewN)); done))⟩
    · obtain rfl : j = syms.length := by omega
      have hEE := hE.out
      rw [List.drop_length] at hEE
      have z0 := gro_keeps y0 os d
      have z1 := gro_keeps y1 os d
      by_cases h : a = code.size
      · subst h
        have HF := Lib.hid (show imageOk ⟨code, syms⟩ = decide ((code.size : Int) ≤ 1000000) from by
          rw [HQ.out, ← hEE]
          simp only [imgF]
          simp; omega)
        clear hE hEE
        go_wp2_with (fail)
        go_ret
        exact ⟨ret_bool (by rw [HF.out]; try simp), hG0.trans (by (repeat (first | with_reducible exact Gro.refl _ | with_reducible exact Gro.refl_drew _ _ _ | with_reducible exact Gro.refl_drewN _ _ _ _ | assumption | with_reducible apply Gro.more | with_reducible apply Gro.alloc | with_reducible apply Gro.drew | with_reducible apply Gro.drewN)); done)⟩
      · have HF := Lib.hid (show imageOk ⟨code, syms⟩ = false from by
          rw [HQ.out, ← hEE]
          simp [imgF, h])
        have p9 : ((a : Int) == (code.size : Int)) = false := by simp; omega
        clear hE hEE
        go_wp2_with (fail)
        go_ret
        exact ⟨ret_bool (by rw [HF.out]; try simp), hG0.trans (by (repeat (first | with_reducible exact Gro.refl _ | with_reducible exact Gro.refl_drew _ _ _ | with_reducible exact Gro.refl_drewN _ _ _ _ | assumption | with_reducible apply Gro.more | with_reducible apply Gro.alloc | with_reducible apply Gro.drew | with_reducible apply Gro.drewN)); done)⟩
end Go.Proofs.Ytbhobjepjaeffaa
namespace Go.Proofs.Ytbhobjepjaeffaa
open Go.RowKit
theorem box3 {W : World} {g : Nat} {a b c : Value} {e : TypeId} (h : W.heap[g]? = some (.cells #[a, b, c] e (0, 0))) :
    W.cell? ⟨g, 0, none⟩ = some a ∧ W.cell? ⟨g, 1, none⟩ = some b ∧ W.cell? ⟨g, 2, none⟩ = some c ∧ (∀ j, W.frozen? ⟨g, j, none⟩ = false) ∧ g < W.heap.size := by
  refine ⟨?_, ?_, ?_, fun j => by simp [World.frozen?, h], (Array.getElem?_eq_some_iff.1 h).1⟩
  all_goals
    rw [cell_of_row W g _ _ _ (0, 0) h]
    rfl
theorem zip_at {α β : Type} {xs : List α} {ys : List β} {k : Nat} {x : α} {y : β} (hx : xs[k]? = some x) (hy : ys[k]? = some y) (f : α × β → Bool) : ((xs.zip ys).drop k).any f = (f (x, y) || ((xs.zip ys).drop (k + 1)).any f) := by
  have h : (xs.zip ys)[k]? = some (x, y) := by
    rw [List.getElem?_zip_eq_some]
    exact ⟨hx, hy⟩
  obtain ⟨hl, he⟩ := List.getElem?_eq_some_iff.1 h
  rw [List.drop_eq_getElem_cons hl, he, List.any_cons]
theorem any_at {α : Type} {xs : List α} {k : Nat} {x : α} (hx : xs[k]? = some x) (f : α → Bool) : (xs.drop k).any f = (f x || (xs.drop (k + 1)).any f) := by
  obtain ⟨hl, he⟩ := List.getElem?_eq_some_iff.1 hx
  rw [List.drop_eq_getElem_cons hl, he, List.any_cons]
set_option maxRecDepth 100000 in
set_option maxHeartbeats 4000000 in
theorem isEntry_i {imgs : List DImage} {bases es : List Int} {e : Int} {w : World} {A0 A1 A2 : Option Addr} {c0 c1 c2 : Nat} (h0 : (tImage.sl 96).R w w.heap.size [.slice A0 imgs.length c0] imgs) (h1 : (intT.sl 3).R w w.heap.size [.slice A1 bases.length c1] bases)
    (hl : imgs.length = bases.length) (hst : ∀ x ∈ imgs, ∀ y ∈ x.Symbols, btw y.Start 0 1000000 = true) (hbs : ∀ b ∈ bases, btw b 1 1000000 = true) (he : I64 e) :
    Calls Try.prog 86 #[.agg #[.slice A0 imgs.length c0, .slice A1 bases.length c1, .slice A2 es.length c2], .int .i64 e] w fun r w' => r = .returned (.bool (isEnt ⟨imgs, bases, es⟩ e)) ∧ Gro w w' := by
  obtain ⟨_, _, hx', hxl, hcm⟩ := sl_at h0
  injection hx' with e1 e2 e3
  subst e1 e3
  clear e2
  obtain ⟨_, _, hx', hyl, hdm⟩ := sl_at h1
  injection hx' with e1 e2 e3
  subst e1 e3
  clear e2
  obtain ⟨he1, he2⟩ := he
  have HL := Lib.hid (Nat.le_of_eq hl)
  have hl2 := Nat.le_of_eq hl
  clear hl
  go_enter Try.func86, Try.ntmps86
  go_wp2_with (fail)
  have hG0 : Gro w (w.alloc (.cells #[.slice A0 imgs.length c0, .slice A1 bases.length c1, .slice A2 es.length c2] 33)) := (by repeat (first | with_reducible exact Gro.refl _ | with_reducible exact Gro.refl_drew _ _ _ | with_reducible exact Gro.refl_drewN _ _ _ _ | assumption | with_reducible apply Gro.more | with_reducible apply Gro.alloc | with_reducible apply Gro.drew | with_reducible apply Gro.drewN))
  have eb := heap_alloc_new w (.cells #[.slice A0 imgs.length c0, .slice A1 bases.length c1, .slice A2 es.length c2] 33)
  have k0 := Ty.up _ h0 hG0
  have k1 := Ty.up _ h1 hG0
  obtain ⟨g0, hg0⟩ : ∃ g0, w.heap.size = g0 := ⟨_, rfl⟩
  rw [hg0] at eb ⊢
  generalize w.alloc (.cells #[.slice A0 imgs.length c0, .slice A1 bases.length c1, .slice A2 es.length c2] 33) = Y at hG0 eb k0 k1 ⊢
  clear h0 h1 hg0
  obtain ⟨y0, y1, _, _, yl⟩ := box3 eb
  go_loopw [12] (fun x wr => ∃ k : Nat, x = .int .i64 k ∧ k ≤ imgs.length ∧ Hid (((imgs.zip bases).drop k).any (fun p => p.1.Symbols.any fun x => decide (p.2 + x.Start = e)) = isEnt ⟨imgs, bases, es⟩ e) ∧ Hid (Gro Y wr)) (fun x _ => imgs.length - (intOf x).toNat)
  case atStart => exact ⟨0, rfl, Nat.zero_le _, Lib.hid rfl, Lib.hid (Gro.refl _)⟩
  case round =>
    obtain ⟨k, rfl, hk, hE, hG⟩ := hrel
    obtain ⟨os, d, rfl⟩ := hG.out
    clear hG
    by_cases hlt : k < imgs.length
    · obtain ⟨g, off, x, A, c, rfl, hgb, hxk, hx0, hx1, bx0, bx1⟩ := atImage k0 hlt
      obtain ⟨gb, offb, b, rfl, hbk, hcb, bb1, bb2⟩ := ints_at k1 (k := k) (by omega)
      have hbb := btw_iff.1 (hbs b (List.mem_of_getElem? hbk))
      have hsy := hst x (List.mem_of_getElem? hxk)
      have hz := zip_at hxk hbk (fun p => p.1.Symbols.any fun x => decide (p.2 + x.Start = e))
      rw [hE.out] at hz
      simp only at hz
      have HZ := Lib.hid hz
      have hc0 := gro_keeps hx0 os d
      have hc1 := gro_keeps hx1 os d
      have hki : (k : Int) < (imgs.length : Int) := by omega
      have hki2 : (k : Int) < (bases.length : Int) := by omega
      obtain ⟨code, syms⟩ := x
      simp only at hc0 hc1 bx0 bx1 hsy HZ hx0 hx1
      obtain ⟨_, _, hx', hsl, hsm⟩ := sl_at bx1
      injection hx' with e1 e2 e3
      subst e1 e3
      clear e2 hz hE hxk
      go_wp2_with (fail)
      have hGV : Gro Y ((gro Y os d).alloc (.cells #[.string code, .slice A syms.length c] 96)) := (by repeat (first | with_reducible exact Gro.refl _ | with_reducible exact Gro.refl_drew _ _ _ | with_reducible exact Gro.refl_drewN _ _ _ _ | assumption | with_reducible apply Gro.more | with_reducible apply Gro.alloc | with_reducible apply Gro.drew | with_reducible apply Gro.drewN))
      have ei := heap_alloc_new (gro Y os d) (.cells #[.string code, .slice A syms.length c] 96)
      obtain ⟨gi, hgi⟩ : ∃ gi, (gro Y os d).heap.size = gi := ⟨_, rfl⟩
      rw [hgi] at ei
      rw [gro_size] at hgi
      rw [hgi]
      generalize (gro Y os d).alloc (.cells #[.string code, .slice A syms.length c] 96) = V at hGV ei ⊢
      obtain ⟨v0, v1, _, _, vl⟩ := box2 ei
      have u1 := cell_up hGV y1
      have ul : g0 < V.heap.size := Nat.lt_of_lt_of_le yl hGV.size
      have ub := cell_up hGV hcb
      have ubl := World.block_lt_of_cell? _ _ ub
      simp only at ubl
      have ks := Ty.up _ bx1 hGV
      clear hc0 hc1 hx0 hx1 hgi bx1 hcb
      go_loopw [20] (fun x we => ∃ m : Nat, x = .int .i64 m ∧ m ≤ syms.length ∧ Hid ((syms.drop m).any (fun x => decide (b + x.Start = e)) = syms.any (fun x => decide (b + x.Start = e))) ∧ Hid (Gro V we)) (fun x _ => syms.length - (intOf x).toNat)
      case atStart => exact ⟨0, rfl, Nat.zero_le _, Lib.hid rfl, Lib.hid (Gro.refl _)⟩
      case round =>
        obtain ⟨m, rfl, hm, hI, hG⟩ := hrel
        obtain ⟨os2, d2, rfl⟩ := hG.out
        clear hG
        by_cases hml : m < syms.length
        · obtain ⟨g2, off2, y, rfl, hgb2, hyk, hy0, hy1, hy2, by0, by1, by2⟩ := atSymbol ks hml
          have hyb := btw_iff.1 (hsy y (List.mem_of_getElem? hyk))
          have ha := any_at hyk (fun x => decide (b + x.Start = e))
          rw [hI.out] at ha
          have n0 := gro_keeps hy0 os2 d2
          have n1 := gro_keeps hy1 os2 d2
          have n2 := gro_keeps hy2 os2 d2
          have u1' := gro_keeps u1 os2 d2
          have ub' := gro_keeps ub os2 d2
          have hmi : (m : Int) < (syms.length : Int) := by omega
          have w1 : IntKind.i64.wrap (b + y.Start) = b + y.Start := IntWalk.i64_in _ (by omega)
          by_cases hq : b + y.Start = e
          · have HQ := Lib.hid (show isEnt ⟨imgs, bases, es⟩ e = true from by rw [HZ.out, ha]; simp [hq])
            have hqb : (b + y.Start == e) = true := by simp [hq]
            clear ha hq hyk hI
            go_wp2_with (fail)
            go_quiet (fail)
            go_wp2_with (fail)
            go_ret
            exact ⟨ret_bool HQ.out.symm, (hG0.trans hGV).trans (by (repeat (first | with_reducible exact Gro.refl _ | with_reducible exact Gro.refl_drew _ _ _ | with_reducible exact Gro.refl_drewN _ _ _ _ | assumption | with_reducible apply Gro.more | with_reducible apply Gro.alloc | with_reducible apply Gro.drew | with_reducible apply Gro.drewN)); done)⟩
          · have hqb : (b + y.Start == e) = false := by simp [hq]
            have HA := Lib.hid (show (syms.drop (m + 1)).any (fun x => decide (b + x.Start = e)) = syms.any (fun x => decide (b + x.Start = e)) from by rw [ha]; simp [hq])
            clear ha hq hyk hI
            go_wp2_with (fail)
            go_quiet (fail)
            go_wp2_with (fail)
            go_roundw
            case measure => (simp [intOf]; try omega)
            case rel => exact ⟨m + 1, by go_num, by omega, HA, Lib.hid (by repeat (first | with_reducible exact Gro.refl _ | with_reducible exact Gro.refl_drew _ _ _ | with_reducible exact Gro.refl_drewN _ _ _ _ | assumption | with_reducible apply Gro.more | with_reducible apply Gro.alloc | with_reducible apply Gro.drew | with_reducible apply Gro.drewN))⟩
        · obtain rfl : m = syms.length := by omega
          have HF := Lib.hid (show ((imgs.zip bases).drop (k + 1)).any (fun p => p.1.Symbols.any fun x => decide (p.2 + x.Start = e)) = isEnt ⟨imgs, bases, es⟩ e from by
            have := hI.out
            rw [List.drop_length] at this
            rw [HZ.out, ← this]
            simp)
          clear hI
          go_wp2_with (fail)
          go_roundw
          case measure => (simp [intOf]; try omega)
          case rel => exact ⟨k + 1, by go_num, by omega, HF, Lib.hid (hGV.trans (by (repeat (first | with_reducible exact Gro.refl _ | with_reducible exact Gro.refl_drew _ _ _ | with_reducible exact Gro.refl_drewN _ _ _ _ | assumption | with_reducible apply Gro.more | with_reducible apply Gro.alloc | with_reducible apply Gro.drew | with_reducible apply Gro.drewN)); done))⟩
    · obtain rfl : k = imgs.length := by omega
      have HF := Lib.hid (show isEnt ⟨imgs, bases, es⟩ e = false from by
        rw [← hE.out, List.drop_eq_nil_of_le (by rw [List.length_zip]; omega)]
        rfl)
      clear hE
      go_wp2_with (fail)
      go_ret
      exact ⟨ret_bool HF.out.symm, hG0.trans (by (repeat (first | with_reducible exact Gro.refl _ | with_reducible exact Gro.refl_drew _ _ _ | with_reducible exact Gro.refl_drewN _ _ _ _ | assumption | with_reducible apply Gro.more | with_reducible apply Gro.alloc | with_reducible apply Gro.drew | with_reducible apply Gro.drewN)); done)⟩
theorem starts_ok {i : DImage} (h : imageOk i = true) : ∀ y ∈ i.Symbols, btw y.Start 0 1000000 = true := by
  simp only [imageOk, Bool.and_eq_true, decide_eq_true_eq] at h
  intro y hy
  obtain ⟨_, h1, h2⟩ := sym_find h.1 i.Symbols [] 0 0 h.2 y hy
  exact btw_mk (by omega) (by omega)
theorem len_two {α : Type} {l : List α} (h : l.length = 2) : ∃ a b, l = [a, b] := by
  match l, h with
  | [a, b], _ => exact ⟨a, b, rfl⟩
theorem image_two {e : TypeId} {w : World} {B : Nat} {A0 : Option Addr} {n c0 : Nat} {i j : DImage} (h : (tImage.sl e).R w B [.slice A0 n c0] [i, j]) : ∃ g off A c A' c', A0 = some ⟨g, off, none⟩ ∧ g < B ∧ w.cell? ⟨g, off, none⟩ = some (.string i.Code) ∧ w.cell? ⟨g, off + 1, none⟩ = some (.slice A i.Symbols.length c) ∧ w.cell? ⟨g, off + 2, none⟩ = some (.string j.Code) ∧ w.cell? ⟨g, off + 2 + 1, none⟩ = some (.slice A' j.Symbols.length c') ∧
    i.Code.size ≤ 9223372036854775807 ∧ j.Code.size ≤ 9223372036854775807 ∧ (tSymbol.sl 118).R w B [.slice A i.Symbols.length c] i.Symbols ∧ (tSymbol.sl 118).R w B [.slice A' j.Symbols.length c'] j.Symbols := by
  obtain ⟨g, off, x, A, c, rfl, hgb, hxk, hx0, hx1, bx0, bx1⟩ := atImage h (k := 0) (by simp)
  obtain ⟨g', off', y, A', c', he, hgb', hyk, hy0, hy1, by0, by1⟩ := atImage h (k := 1) (by simp)
  injection he with he
  injection he with e1 e2
  subst e1 e2
  simp only [List.getElem?_cons_zero, List.getElem?_cons_succ, Option.some.injEq] at hxk hyk
  subst hxk hyk
  simp only [Nat.zero_mul, Nat.one_mul, Nat.add_zero] at hx0 hx1 hy0 hy1
  exact ⟨g, off, A, c, A', c', rfl, hgb, hx0, hx1, hy0, hy1, bx0, by0, bx1, by1⟩
theorem ints_two {e : TypeId} {w : World} {B : Nat} {A0 : Option Addr} {n c0 : Nat} {a b : Int} (h : (intT.sl e).R w B [.slice A0 n c0] [a, b]) : ∃ g off, A0 = some ⟨g, off, none⟩ ∧ w.cell? ⟨g, off, none⟩ = some (.int .i64 a) ∧ w.cell? ⟨g, off + 1, none⟩ = some (.int .i64 b) ∧ I64 a ∧ I64 b := by
  obtain ⟨g, off, x, rfl, hxk, hx0, bx1, bx2⟩ := ints_at h (k := 0) (by simp)
  obtain ⟨g', off', y, he, hyk, hy0, by1, by2⟩ := ints_at h (k := 1) (by simp)
  injection he with he
  injection he with e1 e2
  subst e1 e2
  simp only [List.getElem?_cons_zero, List.getElem?_cons_succ, Option.some.injEq] at hxk hyk
  subst hxk hyk
  simp only [Nat.add_zero] at hx0
  exact ⟨g, off, rfl, hx0, hy0, ⟨bx1, bx2⟩, ⟨by1, by2⟩⟩
def ovl (i j : DImage) (a b : Int) : Bool := decide (0 < i.Code.size) && decide (0 < j.Code.size) && decide (a < b + j.Code.size) && decide (b < a + i.Code.size)
theorem space_two {i j : DImage} {a b : Int} {es : List Int} : spaceOk ⟨[i, j], [a, b], es⟩ = (btw es.length 1 6 && (imageOk i && imageOk j) && (btw a 1 1000000 && btw b 1 1000000) && !ovl i j a b && es.all (isEnt ⟨[i, j], [a, b], es⟩)) := by
  simp [spaceOk, overlap, ovl]
theorem space_img {s : DSpace} (h : s.Images.length ≠ 2) : spaceOk s = false := by
  unfold spaceOk
  rw [decide_eq_false h]
  simp
theorem space_bas {s : DSpace} (h : s.Bases.length ≠ 2) : spaceOk s = false := by
  unfold spaceOk
  rw [decide_eq_false h]
  simp
theorem space_ent {s : DSpace} (h : btw s.Entries.length 1 6 = false) : spaceOk s = false := by
  unfold spaceOk
  rw [h]
  simp
theorem isEntry2_i {i j : DImage} {a b : Int} {es : List Int} {e : Int} {w : World} {A0 A1 A2 : Option Addr} {c0 c1 c2 : Nat} (h0 : (tImage.sl 96).R w w.heap.size [.slice A0 2 c0] [i, j]) (h1 : (intT.sl 3).R w w.heap.size [.slice A1 2 c1] [a, b])
    (hi : imageOk i = true) (hj : imageOk j = true) (ha : btw a 1 1000000 = true) (hb : btw b 1 1000000 = true) (he : I64 e) :
    Calls Try.prog 86 #[.agg #[.slice A0 2 c0, .slice A1 2 c1, .slice A2 es.length c2], .int .i64 e] w fun r w' => r = .returned (.bool (isEnt ⟨[i, j], [a, b], es⟩ e)) ∧ Gro w w' :=
  isEntry_i (imgs := [i, j]) (bases := [a, b]) h0 h1 rfl (fun x hx => by
    simp only [List.mem_cons, List.not_mem_nil, or_false] at hx
    rcases hx with rfl | rfl
    · exact starts_ok hi
    · exact starts_ok hj) (fun x hx => by
    simp only [List.mem_cons, List.not_mem_nil, or_false] at hx
    rcases hx with rfl | rfl
    · exact ha
    · exact hb) he
theorem all_at {α : Type} {xs : List α} {k : Nat} {x : α} (hx : xs[k]? = some x) (f : α → Bool) : (xs.drop k).all f = (f x && (xs.drop (k + 1)).all f) := by
  obtain ⟨hl, he⟩ := List.getElem?_eq_some_iff.1 hx
  rw [List.drop_eq_getElem_cons hl, he, List.all_cons]
set_option maxRecDepth 100000 in
set_option maxHeartbeats 8000000 in
theorem spaceOk_i {s : DSpace} {w : World} {A0 A1 A2 : Option Addr} {c0 c1 c2 : Nat} (h0 : (tImage.sl 96).R w w.heap.size [.slice A0 s.Images.length c0] s.Images) (h1 : (intT.sl 3).R w w.heap.size [.slice A1 s.Bases.length c1] s.Bases)
    (h2 : (intT.sl 3).R w w.heap.size [.slice A2 s.Entries.length c2] s.Entries) (hs : szSpace s ≤ 1099511627776) :
    Calls Try.prog 47 #[.agg #[.slice A0 s.Images.length c0, .slice A1 s.Bases.length c1, .slice A2 s.Entries.length c2]] w fun r w' => r = .returned (.bool (spaceOk s)) ∧ Gro w w' := by
  by_cases hi : s.Images.length = 2
  case neg =>
    have HQ := Lib.hid (space_img hi)
    have p1 : ((s.Images.length : Int) != 2) = true := by simp; omega
    clear hi
    go_enter Try.func47, Try.ntmps47
    go_wp2_with (fail)
    go_ret
    exact ⟨ret_bool HQ.out.symm, (by repeat (first | with_reducible exact Gro.refl _ | with_reducible exact Gro.refl_drew _ _ _ | with_reducible exact Gro.refl_drewN _ _ _ _ | assumption | with_reducible apply Gro.more | with_reducible apply Gro.alloc | with_reducible apply Gro.drew | with_reducible apply Gro.drewN))⟩
  by_cases hj : s.Bases.length = 2
  case neg =>
    have HQ := Lib.hid (space_bas hj)
    have p1 : ((s.Images.length : Int) != 2) = false := by simp; omega
    have p2 : ((s.Bases.length : Int) != 2) = true := by simp; omega
    clear hi hj
    go_enter Try.func47, Try.ntmps47
    go_wp2_with (fail)
    go_ret
    exact ⟨ret_bool HQ.out.symm, (by repeat (first | with_reducible exact Gro.refl _ | with_reducible exact Gro.refl_drew _ _ _ | with_reducible exact Gro.refl_drewN _ _ _ _ | assumption | with_reducible apply Gro.more | with_reducible apply Gro.alloc | with_reducible apply Gro.drew | with_reducible apply Gro.drewN))⟩
  cases he : btw s.Entries.length 1 6 with
  | false =>
    have HQ := Lib.hid (space_ent he)
    have HE := Lib.hid he
    have p1 : ((s.Images.length : Int) != 2) = false := by simp; omega
    have p2 : ((s.Bases.length : Int) != 2) = false := by simp; omega
    clear hi hj he
    go_enter Try.func47, Try.ntmps47
    go_wp2_with (go_at_call 48; (with_reducible refine (in_i _ _ _ _).mono ?_); rw [HE.out]; rintro e w1 ⟨rfl, rfl⟩)
    go_ret
    exact ⟨ret_bool HQ.out.symm, (by repeat (first | with_reducible exact Gro.refl _ | with_reducible exact Gro.refl_drew _ _ _ | with_reducible exact Gro.refl_drewN _ _ _ _ | assumption | with_reducible apply Gro.more | with_reducible apply Gro.alloc | with_reducible apply Gro.drew | with_reducible apply Gro.drewN))⟩
  | true =>
  obtain ⟨imgs, bases, es⟩ := s
  simp only at h0 h1 h2 hi hj he hs ⊢
  have HE := Lib.hid he
  have hel := btw_iff.1 he
  obtain ⟨i, j, rfl⟩ := len_two hi
  obtain ⟨a, b, rfl⟩ := len_two hj
  have HS := Lib.hid (@space_two i j a b es)
  rw [he] at HS
  clear hi hj he
  obtain ⟨_, _, hx', hzl, hzm⟩ := sl_at h2
  injection hx' with e1 e2 e3
  subst e1 e3
  clear e2
  have hsz : szImage i + szImage j + 2 + 2 + es.length ≤ 1099511627776 := by simp [szSpace, szL] at hs; omega
  have hci : i.Code.size ≤ 1099511627776 := by unfold szImage at hsz; omega
  have hcj : j.Code.size ≤ 1099511627776 := by unfold szImage at hsz; omega
  have hsi : i.Symbols.length ≤ 1099511627776 := by unfold szImage at hsz; have := szL_len szSymbol i.Symbols; omega
  have hsj : j.Symbols.length ≤ 1099511627776 := by unfold szImage at hsz; have := szL_len szSymbol j.Symbols; omega
  clear hsz hs
  simp only [List.length_cons, List.length_nil] at h0 h1 ⊢
  go_enter Try.func47, Try.ntmps47
  go_wp2_with (go_at_call 48; (with_reducible refine (in_i _ _ _ _).mono ?_); rw [HE.out]; rintro e w1 ⟨rfl, rfl⟩)
  have hG0 : Gro w (w.alloc (.cells #[.slice A0 2 c0, .slice A1 2 c1, .slice A2 es.length c2] 33)) := (by repeat (first | with_reducible exact Gro.refl _ | with_reducible exact Gro.refl_drew _ _ _ | with_reducible exact Gro.refl_drewN _ _ _ _ | assumption | with_reducible apply Gro.more | with_reducible apply Gro.alloc | with_reducible apply Gro.drew | with_reducible apply Gro.drewN))
  have eb := heap_alloc_new w (.cells #[.slice A0 2 c0, .slice A1 2 c1, .slice A2 es.length c2] 33)
  have k0 := Ty.up _ h0 hG0
  have k1 := Ty.up _ h1 hG0
  have k2 := Ty.up _ h2 hG0
  obtain ⟨g0, hg0⟩ : ∃ g0, w.heap.size = g0 := ⟨_, rfl⟩
  rw [hg0] at eb ⊢
  generalize w.alloc (.cells #[.slice A0 2 c0, .slice A1 2 c1, .slice A2 es.length c2] 33) = Y at hG0 eb k0 k1 k2 ⊢
  clear h0 h1 h2 hg0
  obtain ⟨y0, y1, y2, _, yl⟩ := box3 eb
  obtain ⟨gi, oi, Ai, ci, Aj, cj, rfl, hgi, i0, i1, j0, j1, bi0, bj0, bi1, bj1⟩ := image_two k0
  obtain ⟨gb, ob, rfl, b0, b1, ⟨ba1, ba2⟩, ⟨bb1, bb2⟩⟩ := ints_two k1
  have hgb := World.block_lt_of_cell? _ _ b0
  simp only at hgb
  go_loopw [28] (fun x wr => ((x = .int .i64 0) ∨ (x = .int .i64 1 ∧ imageOk i = true ∧ btw a 1 1000000 = true) ∨ (x = .int .i64 2 ∧ imageOk i = true ∧ btw a 1 1000000 = true ∧ imageOk j = true ∧ btw b 1 1000000 = true)) ∧ Hid (Gro Y wr)) (fun x _ => 2 - (intOf x).toNat)
  case atStart => exact ⟨.inl rfl, Lib.hid (Gro.refl _)⟩
  case round =>
    obtain ⟨hcase, hG⟩ := hrel
    obtain ⟨os, d, rfl⟩ := hG.out
    clear hG
    rcases hcase with rfl | ⟨rfl, hq1, hq2⟩ | ⟨rfl, hq1, hq2, hq3, hq4⟩
    · have d0 := gro_keeps i0 os d
      have d1 := gro_keeps i1 os d
      have d2 := gro_keeps b0 os d
      have z0 := gro_keeps y0 os d
      have z1 := gro_keeps y1 os d
      obtain ⟨ik, hk⟩ : ∃ ik, imageOk i = ik := ⟨_, rfl⟩
      cases ik with
      | false =>
        have HK := Lib.hid hk
        have HQ := Lib.hid (show spaceOk ⟨[i, j], [a, b], es⟩ = false from by rw [HS.out, hk]; simp)
        clear hk
        go_wp2_with (go_at_call 85; (with_reducible refine (imageOk_i (i := i) (Ty.up _ bi1 (by repeat (first | with_reducible exact Gro.refl _ | with_reducible exact Gro.refl_drew _ _ _ | with_reducible exact Gro.refl_drewN _ _ _ _ | assumption | with_reducible apply Gro.more | with_reducible apply Gro.alloc | with_reducible apply Gro.drew | with_reducible apply Gro.drewN))) hci hsi).mono ?_); rw [HK.out]; rintro e w1 ⟨rfl, os1, d1, rfl⟩)
        go_ret
        exact ⟨ret_bool HQ.out.symm, hG0.trans (by (repeat (first | with_reducible exact Gro.refl _ | with_reducible exact Gro.refl_drew _ _ _ | with_reducible exact Gro.refl_drewN _ _ _ _ | assumption | with_reducible apply Gro.more | with_reducible apply Gro.alloc | with_reducible apply Gro.drew | with_reducible apply Gro.drewN)); done)⟩
      | true =>
        obtain ⟨bk, hb⟩ : ∃ bk, btw a 1 1000000 = bk := ⟨_, rfl⟩
        cases bk with
        | false =>
          have HK := Lib.hid hk
          have HB := Lib.hid hb
          have HQ := Lib.hid (show spaceOk ⟨[i, j], [a, b], es⟩ = false from by rw [HS.out, hb]; simp)
          clear hk hb
          go_wp2_with (first
            | (go_at_call 85; (with_reducible refine (imageOk_i (i := i) (Ty.up _ bi1 (by repeat (first | with_reducible exact Gro.refl _ | with_reducible exact Gro.refl_drew _ _ _ | with_reducible exact Gro.refl_drewN _ _ _ _ | assumption | with_reducible apply Gro.more | with_reducible apply Gro.alloc | with_reducible apply Gro.drew | with_reducible apply Gro.drewN))) hci hsi).mono ?_); rw [HK.out]; rintro e w1 ⟨rfl, os1, d1, rfl⟩)
            | (go_at_call 48; (with_reducible refine (in_i _ _ _ _).mono ?_); rw [HB.out]; rintro e w1 ⟨rfl, rfl⟩))
          go_ret
          exact ⟨ret_bool HQ.out.symm, hG0.trans (by (repeat (first | with_reducible exact Gro.refl _ | with_reducible exact Gro.refl_drew _ _ _ | with_reducible exact Gro.refl_drewN _ _ _ _ | assumption | with_reducible apply Gro.more | with_reducible apply Gro.alloc | with_reducible apply Gro.drew | with_reducible apply Gro.drewN)); done)⟩
        | true =>
          have HK := Lib.hid hk
          have HB := Lib.hid hb
          clear hk hb
          go_wp2_with (first
            | (go_at_call 85; (with_reducible refine (imageOk_i (i := i) (Ty.up _ bi1 (by repeat (first | with_reducible exact Gro.refl _ | with_reducible exact Gro.refl_drew _ _ _ | with_reducible exact Gro.refl_drewN _ _ _ _ | assumption | with_reducible apply Gro.more | with_reducible apply Gro.alloc | with_reducible apply Gro.drew | with_reducible apply Gro.drewN))) hci hsi).mono ?_); rw [HK.out]; rintro e w1 ⟨rfl, os1, d1, rfl⟩)
            | (go_at_call 48; (with_reducible refine (in_i _ _ _ _).mono ?_); rw [HB.out]; rintro e w1 ⟨rfl, rfl⟩))
          go_roundw
          case measure => (simp [intOf]; try omega)
          case rel => exact ⟨.inr (.inl ⟨rfl, HK.out, HB.out⟩), Lib.hid (by repeat (first | with_reducible exact Gro.refl _ | with_reducible exact Gro.refl_drew _ _ _ | with_reducible exact Gro.refl_drewN _ _ _ _ | assumption | with_reducible apply Gro.more | with_reducible apply Gro.alloc | with_reducible apply Gro.drew | with_reducible apply Gro.drewN))⟩
    · have d0 := gro_keeps j0 os d
      have d1 := gro_keeps j1 os d
      have d2 := gro_keeps b1 os d
      have z0 := gro_keeps y0 os d
      have z1 := gro_keeps y1 os d
      obtain ⟨ik, hk⟩ : ∃ ik, imageOk j = ik := ⟨_, rfl⟩
      cases ik with
      | false =>
        have HK := Lib.hid hk
        have HQ := Lib.hid (show spaceOk ⟨[i, j], [a, b], es⟩ = false from by rw [HS.out, hk]; simp)
        clear hk
        go_wp2_with (go_at_call 85; (with_reducible refine (imageOk_i (i := j) (Ty.up _ bj1 (by repeat (first | with_reducible exact Gro.refl _ | with_reducible exact Gro.refl_drew _ _ _ | with_reducible exact Gro.refl_drewN _ _ _ _ | assumption | with_reducible apply Gro.more | with_reducible apply Gro.alloc | with_reducible apply Gro.drew | with_reducible apply Gro.drewN))) hcj hsj).mono ?_); rw [HK.out]; rintro e w1 ⟨rfl, os1, d1, rfl⟩)
        go_ret
        exact ⟨ret_bool HQ.out.symm, hG0.trans (by (repeat (first | with_reducible exact Gro.refl _ | with_reducible exact Gro.refl_drew _ _ _ | with_reducible exact Gro.refl_drewN _ _ _ _ | assumption | with_reducible apply Gro.more | with_reducible apply Gro.alloc | with_reducible apply Gro.drew | with_reducible apply Gro.drewN)); done)⟩
      | true =>
        obtain ⟨bk, hb⟩ : ∃ bk, btw b 1 1000000 = bk := ⟨_, rfl⟩
        cases bk with
        | false =>
          have HK := Lib.hid hk
          have HB := Lib.hid hb
          have HQ := Lib.hid (show spaceOk ⟨[i, j], [a, b], es⟩ = false from by rw [HS.out, hb]; simp)
          clear hk hb
          go_wp2_with (first
            | (go_at_call 85; (with_reducible refine (imageOk_i (i := j) (Ty.up _ bj1 (by repeat (first | with_reducible exact Gro.refl _ | with_reducible exact Gro.refl_drew _ _ _ | with_reducible exact Gro.refl_drewN _ _ _ _ | assumption | with_reducible apply Gro.more | with_reducible apply Gro.alloc | with_reducible apply Gro.drew | with_reducible apply Gro.drewN))) hcj hsj).mono ?_); rw [HK.out]; rintro e w1 ⟨rfl, os1, d1, rfl⟩)
            | (go_at_call 48; (with_reducible refine (in_i _ _ _ _).mono ?_); rw [HB.out]; rintro e w1 ⟨rfl, rfl⟩))
          go_ret
          exact ⟨ret_bool HQ.out.symm, hG0.trans (by (repeat (first | with_reducible exact Gro.refl _ | with_reducible exact Gro.refl_drew _ _ _ | with_reducible exact Gro.refl_drewN _ _ _ _ | assumption | with_reducible apply Gro.more | with_reducible apply Gro.alloc | with_reducible apply Gro.drew | with_reducible apply Gro.drewN)); done)⟩
        | true =>
          have HK := Lib.hid hk
          have HB := Lib.hid hb
          clear hk hb
          go_wp2_with (first
            | (go_at_call 85; (with_reducible refine (imageOk_i (i := j) (Ty.up _ bj1 (by repeat (first | with_reducible exact Gro.refl _ | with_reducible exact Gro.refl_drew _ _ _ | with_reducible exact Gro.refl_drewN _ _ _ _ | assumption | with_reducible apply Gro.more | with_reducible apply Gro.alloc | with_reducible apply Gro.drew | with_reducible apply Gro.drewN))) hcj hsj).mono ?_); rw [HK.out]; rintro e w1 ⟨rfl, os1, d1, rfl⟩)
            | (go_at_call 48; (with_reducible refine (in_i _ _ _ _).mono ?_); rw [HB.out]; rintro e w1 ⟨rfl, rfl⟩))
          go_roundw
          case measure => (simp [intOf]; try omega)
          case rel => exact ⟨.inr (.inr ⟨rfl, hq1, hq2, HK.out, HB.out⟩), Lib.hid (by repeat (first | with_reducible exact Gro.refl _ | with_reducible exact Gro.refl_drew _ _ _ | with_reducible exact Gro.refl_drewN _ _ _ _ | assumption | with_reducible apply Gro.more | with_reducible apply Gro.alloc | with_reducible apply Gro.drew | with_reducible apply Gro.drewN))⟩
    · have i0' := gro_keeps i0 os d
      have j0' := gro_keeps j0 os d
      have b0' := gro_keeps b0 os d
      have b1' := gro_keeps b1 os d
      have z0 := gro_keeps y0 os d
      have z1 := gro_keeps y1 os d
      have z2 := gro_keeps y2 os d
      have ra := btw_iff.1 hq2
      have rb := btw_iff.1 hq4
      have HS2 : spaceOk ⟨[i, j], [a, b], es⟩ = (!ovl i j a b && es.all (isEnt ⟨[i, j], [a, b], es⟩)) := by rw [HS.out, hq1, hq2, hq3, hq4]; simp
      have HS3 := Lib.hid HS2
      clear HS2 HS
      have HI := Lib.hid hq1
      have HJ := Lib.hid hq3
      have HA := Lib.hid hq2
      have HB := Lib.hid hq4
      clear hq1 hq2 hq3 hq4
      go_wp2_with (fail)
      go_quiet (fail)
      have hGX : Gro Y ((gro Y os d).drewN nq) := (by repeat (first | with_reducible exact Gro.refl _ | with_reducible exact Gro.refl_drew _ _ _ | with_reducible exact Gro.refl_drewN _ _ _ _ | assumption | with_reducible apply Gro.more | with_reducible apply Gro.alloc | with_reducible apply Gro.drew | with_reducible apply Gro.drewN))
      generalize (gro Y os d).drewN nq = X at hGX ⊢
      clear i0' j0' b0' b1' z0 z1 z2
      have i0' := cell_up hGX i0
      have j0' := cell_up hGX j0
      have b0' := cell_up hGX b0
      have b1' := cell_up hGX b1
      have z0 := cell_up hGX y0
      have z1 := cell_up hGX y1
      have z2 := cell_up hGX y2
      have w1 : IntKind.i64.wrap (b + (j.Code.size : Int)) = b + (j.Code.size : Int) := IntWalk.i64_in _ ⟨by omega, by omega⟩
      have w2 : IntKind.i64.wrap (a + (i.Code.size : Int)) = a + (i.Code.size : Int) := IntWalk.i64_in _ ⟨by omega, by omega⟩
      go_upto_region 10 with fail
      go_cut [91] from 60 to 91 (fun r wx => r = .bool (ovl i j a b) ∧ Hid (Gro X wx))
      case first =>
        by_cases q0 : (0 : Int) < (i.Code.size : Int)
        · have r0 : decide ((0 : Int) < (i.Code.size : Int)) = true := decide_eq_true q0
          have s0 : 0 < i.Code.size := by omega
          have t0 : decide (0 < i.Code.size) = true := decide_eq_true s0
          by_cases q1 : (0 : Int) < (j.Code.size : Int)
          · have r1 : decide ((0 : Int) < (j.Code.size : Int)) = true := decide_eq_true q1
            have s1 : 0 < j.Code.size := by omega
            have t1 : decide (0 < j.Code.size) = true := decide_eq_true s1
            by_cases q2 : a < b + (j.Code.size : Int)
            · have r2 : decide (a < b + (j.Code.size : Int)) = true := decide_eq_true q2
              by_cases q3 : b < a + (i.Code.size : Int)
              · have r3 : decide (b < a + (i.Code.size : Int)) = true := decide_eq_true q3
                go_quiet (fail)
                go_wp2_with (fail)
                go_meet
                exact ⟨by unfold ovl; rw [t0, t1, r2, r3]; simp, Lib.hid (by repeat (first | with_reducible exact Gro.refl _ | with_reducible exact Gro.refl_drew _ _ _ | with_reducible exact Gro.refl_drewN _ _ _ _ | assumption | with_reducible apply Gro.more | with_reducible apply Gro.alloc | with_reducible apply Gro.drew | with_reducible apply Gro.drewN))⟩
              · have r3 : decide (b < a + (i.Code.size : Int)) = false := decide_eq_false q3
                go_quiet (fail)
                go_wp2_with (fail)
                go_meet
                exact ⟨by unfold ovl; rw [t0, t1, r2, r3]; simp, Lib.hid (by repeat (first | with_reducible exact Gro.refl _ | with_reducible exact Gro.refl_drew _ _ _ | with_reducible exact Gro.refl_drewN _ _ _ _ | assumption | with_reducible apply Gro.more | with_reducible apply Gro.alloc | with_reducible apply Gro.drew | with_reducible apply Gro.drewN))⟩
            · have r2 : decide (a < b + (j.Code.size : Int)) = false := decide_eq_false q2
              go_quiet (fail)
              go_wp2_with (fail)
              go_meet
              exact ⟨by unfold ovl; rw [t0, t1, r2]; simp, Lib.hid (by repeat (first | with_reducible exact Gro.refl _ | with_reducible exact Gro.refl_drew _ _ _ | with_reducible exact Gro.refl_drewN _ _ _ _ | assumption | with_reducible apply Gro.more | with_reducible apply Gro.alloc | with_reducible apply Gro.drew | with_reducible apply Gro.drewN))⟩
          · have r1 : decide ((0 : Int) < (j.Code.size : Int)) = false := decide_eq_false q1
            have s1 : ¬ 0 < j.Code.size := by omega
            have t1 : decide (0 < j.Code.size) = false := decide_eq_false s1
            go_quiet (fail)
            go_wp2_with (fail)
            go_meet
            exact ⟨by unfold ovl; rw [t0, t1]; simp, Lib.hid (by repeat (first | with_reducible exact Gro.refl _ | with_reducible exact Gro.refl_drew _ _ _ | with_reducible exact Gro.refl_drewN _ _ _ _ | assumption | with_reducible apply Gro.more | with_reducible apply Gro.alloc | with_reducible apply Gro.drew | with_reducible apply Gro.drewN))⟩
        · have r0 : decide ((0 : Int) < (i.Code.size : Int)) = false := decide_eq_false q0
          have s0 : ¬ 0 < i.Code.size := by omega
          have t0 : decide (0 < i.Code.size) = false := decide_eq_false s0
          go_quiet (fail)
          go_wp2_with (fail)
          go_meet
          exact ⟨by unfold ovl; rw [t0]; simp, Lib.hid (by repeat (first | with_reducible exact Gro.refl _ | with_reducible exact Gro.refl_drew _ _ _ | with_reducible exact Gro.refl_drewN _ _ _ _ | assumption | with_reducible apply Gro.more | with_reducible apply Gro.alloc | with_reducible apply Gro.drew | with_reducible apply Gro.drewN))⟩
      case rest =>
        obtain ⟨rfl, hGw⟩ := hcut
        have hYw : Gro Y wc := hGX.trans hGw.out
        have hGc : Gro w wc := hG0.trans hYw
        clear i0' j0' b0' b1' z0 z1 z2 hGX hGw
        obtain ⟨vb, hv⟩ : ∃ vb, ovl i j a b = vb := ⟨_, rfl⟩
        rw [hv]
        cases vb with
        | true =>
          have HQ := Lib.hid (show spaceOk ⟨[i, j], [a, b], es⟩ = false from by rw [HS3.out, hv]; rfl)
          clear hv
          go_wp2_with (fail)
          go_ret
          exact ⟨ret_bool HQ.out.symm, hGc⟩
        | false =>
          have HQ := Lib.hid (show spaceOk ⟨[i, j], [a, b], es⟩ = es.all (isEnt ⟨[i, j], [a, b], es⟩) from by rw [HS3.out, hv]; rfl)
          have z0 := cell_up hYw y0
          have z1 := cell_up hYw y1
          have z2 := cell_up hYw y2
          have zl : g0 < wc.heap.size := Nat.lt_of_lt_of_le yl hYw.size
          have m0 := Ty.up _ k0 hYw
          have m1 := Ty.up _ k1 hYw
          have m2 := Ty.up _ k2 hYw
          clear hv HS3 w1 w2
          go_wp2_with (fail)
          go_loopw [95] (fun x wr => ∃ k : Nat, x = .int .i64 k ∧ k ≤ es.length ∧ Hid ((es.drop k).all (isEnt ⟨[i, j], [a, b], es⟩) = es.all (isEnt ⟨[i, j], [a, b], es⟩)) ∧ Hid (Gro wc wr)) (fun x _ => es.length - (intOf x).toNat)
          case atStart => exact ⟨0, rfl, Nat.zero_le _, Lib.hid rfl, Lib.hid (Gro.refl _)⟩
          case round =>
            obtain ⟨k, rfl, hk, hE, hG⟩ := hrel
            obtain ⟨os, d, rfl⟩ := hG.out
            clear hG
            by_cases hlt : k < es.length
            · obtain ⟨ge, oe, e, rfl, hek, hce, be1, be2⟩ := ints_at m2 hlt
              have ha := all_at hek (isEnt ⟨[i, j], [a, b], es⟩)
              rw [hE.out] at ha
              have hc := gro_keeps hce os d
              have z0' := gro_keeps z0 os d
              have z1' := gro_keeps z1 os d
              have z2' := gro_keeps z2 os d
              have hki : (k : Int) < (es.length : Int) := by omega
              have he64 : I64 e := ⟨be1, be2⟩
              clear hek hE
              obtain ⟨vb, hv⟩ : ∃ vb, isEnt ⟨[i, j], [a, b], es⟩ e = vb := ⟨_, rfl⟩
              rw [hv] at ha
              have HV := Lib.hid hv
              clear hv
              cases vb with
              | false =>
                have HF := Lib.hid (show spaceOk ⟨[i, j], [a, b], es⟩ = false from by rw [HQ.out, ha]; rfl)
                clear ha
                go_wp2_with (go_at_call 86; (with_reducible refine (isEntry2_i (i := i) (j := j) (a := a) (b := b) (es := es) (e := e) (Ty.up _ m0 (by repeat (first | with_reducible exact Gro.refl _ | with_reducible exact Gro.refl_drew _ _ _ | with_reducible exact Gro.refl_drewN _ _ _ _ | assumption | with_reducible apply Gro.more | with_reducible apply Gro.alloc | with_reducible apply Gro.drew | with_reducible apply Gro.drewN))) (Ty.up _ m1 (by repeat (first | with_reducible exact Gro.refl _ | with_reducible exact Gro.refl_drew _ _ _ | with_reducible exact Gro.refl_drewN _ _ _ _ | assumption | with_reducible apply Gro.more | with_reducible apply Gro.alloc | with_reducible apply Gro.drew | with_reducible apply Gro.drewN))) HI.out HJ.out HA.out HB.out he64).mono ?_); rw [HV.out]; rintro e w1 ⟨rfl, os1, d1, rfl⟩)
                go_ret
                exact ⟨ret_bool HF.out.symm, hGc.trans (by (repeat (first | with_reducible exact Gro.refl _ | with_reducible exact Gro.refl_drew _ _ _ | with_reducible exact Gro.refl_drewN _ _ _ _ | assumption | with_reducible apply Gro.more | with_reducible apply Gro.alloc | with_reducible apply Gro.drew | with_reducible apply Gro.drewN)); done)⟩
              | true =>
                have HF := Lib.hid (show (es.drop (k + 1)).all (isEnt ⟨[i, j], [a, b], es⟩) = es.all (isEnt ⟨[i, j], [a, b], es⟩) from by rw [ha]; rfl)
                clear ha
                go_wp2_with (go_at_call 86; (with_reducible refine (isEntry2_i (i := i) (j := j) (a := a) (b := b) (es := es) (e := e) (Ty.up _ m0 (by repeat (first | with_reducible exact Gro.refl _ | with_reducible exact Gro.refl_drew _ _ _ | with_reducible exact Gro.refl_drewN _ _ _ _ | assumption | with_reducible apply Gro.more | with_reducible apply Gro.alloc | with_reducible apply Gro.drew | with_reducible apply Gro.drewN))) (Ty.up _ m1 (by repeat (first | with_reducible exact Gro.refl _ | with_reducible exact Gro.refl_drew _ _ _ | with_reducible exact Gro.refl_drewN _ _ _ _ | assumption | with_reducible apply Gro.more | with_reducible apply Gro.alloc | with_reducible apply Gro.drew | with_reducible apply Gro.drewN))) HI.out HJ.out HA.out HB.out he64).mono ?_); rw [HV.out]; rintro e w1 ⟨rfl, os1, d1, rfl⟩)
                go_roundw
                case measure => (simp [intOf]; try omega)
                case rel => exact ⟨k + 1, by go_num, by omega, HF, Lib.hid (by repeat (first | with_reducible exact Gro.refl _ | with_reducible exact Gro.refl_drew _ _ _ | with_reducible exact Gro.refl_drewN _ _ _ _ | assumption | with_reducible apply Gro.more | with_reducible apply Gro.alloc | with_reducible apply Gro.drew | with_reducible apply Gro.drewN))⟩
            · obtain rfl : k = es.length := by omega
              have HF := Lib.hid (show spaceOk ⟨[i, j], [a, b], es⟩ = true from by rw [HQ.out, ← hE.out, List.drop_length]; rfl)
              clear hE
              go_wp2_with (fail)
              go_ret
              exact ⟨ret_bool HF.out.symm, hGc.trans (by (repeat (first | with_reducible exact Gro.refl _ | with_reducible exact Gro.refl_drew _ _ _ | with_reducible exact Gro.refl_drewN _ _ _ _ | assumption | with_reducible apply Gro.more | with_reducible apply Gro.alloc | with_reducible apply Gro.drew | with_reducible apply Gro.drewN)); done)⟩
end Go.Proofs.Ytbhobjepjaeffaa
namespace Go.Proofs.Ytbhobjepjaeffaa
open Go.RowKit
theorem locGo_at {imgs : List DImage} {bases : List Int} {k : Nat} {x : DImage} {b : Int} (hx : imgs[k]? = some x) (hb : bases[k]? = some b) (e : Int) : locGo (imgs.drop k) (bases.drop k) e k = if b ≤ e ∧ e < b + x.Code.size then ((k : Int), e - b) else locGo (imgs.drop (k + 1)) (bases.drop (k + 1)) e (k + 1) := by
  obtain ⟨h1, rfl⟩ := List.getElem?_eq_some_iff.1 hx
  obtain ⟨h2, rfl⟩ := List.getElem?_eq_some_iff.1 hb
  rw [List.drop_eq_getElem_cons h1, List.drop_eq_getElem_cons h2]
  rfl
theorem locGo_nil (bases : List Int) (e : Int) (k : Nat) : locGo [] bases e k = (-1, -1) := by
  cases bases <;> rfl
def RetTwo (p : Int × Int) (w : World) (r : Ending) (w' : World) : Prop := r = .returned (.tuple #[.int .i64 p.1, .int .i64 p.2]) ∧ Gro w w'
theorem ret_two {p q : Int × Int} (h : p = q) {w w' : World} (hG : Gro w w') : RetTwo p w (.returned (.tuple #[.int .i64 q.1, .int .i64 q.2])) w' := by
  subst h
  exact ⟨rfl, hG⟩
set_option maxRecDepth 100000 in
set_option maxHeartbeats 4000000 in
theorem locate_s {imgs : List DImage} {bases es : List Int} {e : Int} {w : World} {A0 A1 A2 : Option Addr} {c0 c1 c2 : Nat} (h0 : (tImage.sl 96).R w w.heap.size [.slice A0 imgs.length c0] imgs) (h1 : (intT.sl 3).R w w.heap.size [.slice A1 bases.length c1] bases)
    (hl : imgs.length = bases.length) (hst : ∀ x ∈ imgs, x.Code.size ≤ 1099511627776) (hbs : ∀ b ∈ bases, btw b 1 1000000 = true) (he : I64 e) :
    Calls Try.prog 82 #[.agg #[.slice A0 imgs.length c0, .slice A1 bases.length c1, .slice A2 es.length c2], .int .i64 e] w (RetTwo (locGo imgs bases e 0) w) := by
  obtain ⟨_, _, hx', hxl, hcm⟩ := sl_at h0
  injection hx' with e1 e2 e3
  subst e1 e3
  clear e2
  obtain ⟨_, _, hx', hyl, hdm⟩ := sl_at h1
  injection hx' with e1 e2 e3
  subst e1 e3
  clear e2
  obtain ⟨he1, he2⟩ := he
  have hl2 := Nat.le_of_eq hl
  clear hl
  go_enter Try.func82, Try.ntmps82
  go_wp2_with (fail)
  have hG0 : Gro w (w.alloc (.cells #[.slice A0 imgs.length c0, .slice A1 bases.length c1, .slice A2 es.length c2] 33)) := (by repeat (first | with_reducible exact Gro.refl _ | with_reducible exact Gro.refl_drew _ _ _ | with_reducible exact Gro.refl_drewN _ _ _ _ | assumption | with_reducible apply Gro.more | with_reducible apply Gro.alloc | with_reducible apply Gro.drew | with_reducible apply Gro.drewN))
  have eb := heap_alloc_new w (.cells #[.slice A0 imgs.length c0, .slice A1 bases.length c1, .slice A2 es.length c2] 33)
  have k0 := Ty.up _ h0 hG0
  have k1 := Ty.up _ h1 hG0
  obtain ⟨g0, hg0⟩ : ∃ g0, w.heap.size = g0 := ⟨_, rfl⟩
  rw [hg0] at eb ⊢
  generalize w.alloc (.cells #[.slice A0 imgs.length c0, .slice A1 bases.length c1, .slice A2 es.length c2] 33) = Y at hG0 eb k0 k1 ⊢
  clear h0 h1 hg0
  obtain ⟨y0, y1, _, _, yl⟩ := box3 eb
  go_loopw [6] (fun x wr => ∃ k : Nat, x = .int .i64 k ∧ k ≤ imgs.length ∧ Hid (locGo (imgs.drop k) (bases.drop k) e k = locGo imgs bases e 0) ∧ Hid (Gro Y wr)) (fun x _ => imgs.length - (intOf x).toNat)
  case atStart => exact ⟨0, rfl, Nat.zero_le _, Lib.hid rfl, Lib.hid (Gro.refl _)⟩
  case round =>
    obtain ⟨k, rfl, hk, hE, hG⟩ := hrel
    obtain ⟨os, d, rfl⟩ := hG.out
    clear hG
    by_cases hlt : k < imgs.length
    · obtain ⟨g, off, x, A, c, rfl, hgb, hxk, hx0, hx1, bx0, bx1⟩ := atImage k0 hlt
      obtain ⟨gb, offb, b, rfl, hbk, hcb, bb1, bb2⟩ := ints_at k1 (k := k) (by omega)
      have hbb := btw_iff.1 (hbs b (List.mem_of_getElem? hbk))
      have hsz := hst x (List.mem_of_getElem? hxk)
      have hz := locGo_at hxk hbk e
      rw [hE.out] at hz
      have hc0 := gro_keeps hx0 os d
      have hcb' := gro_keeps hcb os d
      have z0 := gro_keeps y0 os d
      have z1 := gro_keeps y1 os d
      have hki : (k : Int) < (imgs.length : Int) := by omega
      have hki2 : (k : Int) < (bases.length : Int) := by omega
      have w1 : IntKind.i64.wrap (b + (x.Code.size : Int)) = b + (x.Code.size : Int) := IntWalk.i64_in _ (by omega)
      clear hxk hbk hE
      by_cases q0 : b ≤ e
      · have r0 : decide (b ≤ e) = true := decide_eq_true q0
        by_cases q1 : e < b + (x.Code.size : Int)
        · have r1 : decide (e < b + (x.Code.size : Int)) = true := decide_eq_true q1
          have w2 : IntKind.i64.wrap (e - b) = e - b := IntWalk.i64_in _ (by omega)
          have HQ := Lib.hid (show locGo imgs bases e 0 = ((k : Int), e - b) from by rw [hz, if_pos ⟨q0, q1⟩])
          clear hz
          go_wp2_with (fail)
          go_quiet (fail)
          go_wp2_with (fail)
          go_quiet (fail)
          go_wp2_with (fail)
          go_ret2
          exact ret_two (q := ((k : Int), e - b)) HQ.out (hG0.trans (by (repeat (first | with_reducible exact Gro.refl _ | with_reducible exact Gro.refl_drew _ _ _ | with_reducible exact Gro.refl_drewN _ _ _ _ | assumption | with_reducible apply Gro.more | with_reducible apply Gro.alloc | with_reducible apply Gro.drew | with_reducible apply Gro.drewN)); done))
        · have r1 : decide (e < b + (x.Code.size : Int)) = false := decide_eq_false q1
          have HE := Lib.hid (show locGo (imgs.drop (k + 1)) (bases.drop (k + 1)) e (k + 1) = locGo imgs bases e 0 from by rw [hz, if_neg (fun h => q1 h.2)])
          clear hz
          go_wp2_with (fail)
          go_quiet (fail)
          go_wp2_with (fail)
          go_roundw
          case measure => (simp [intOf]; try omega)
          case rel => exact ⟨k + 1, by go_num, by omega, HE, Lib.hid (by repeat (first | with_reducible exact Gro.refl _ | with_reducible exact Gro.refl_drew _ _ _ | with_reducible exact Gro.refl_drewN _ _ _ _ | assumption | with_reducible apply Gro.more | with_reducible apply Gro.alloc | with_reducible apply Gro.drew | with_reducible apply Gro.drewN))⟩
      · have r0 : decide (b ≤ e) = false := decide_eq_false q0
        have HE := Lib.hid (show locGo (imgs.drop (k + 1)) (bases.drop (k + 1)) e (k + 1) = locGo imgs bases e 0 from by rw [hz, if_neg (fun h => q0 h.1)])
        clear hz
        go_wp2_with (fail)
        go_quiet (fail)
        go_wp2_with (fail)
        go_roundw
        case measure => (simp [intOf]; try omega)
        case rel => exact ⟨k + 1, by go_num, by omega, HE, Lib.hid (by repeat (first | with_reducible exact Gro.refl _ | with_reducible exact Gro.refl_drew _ _ _ | with_reducible exact Gro.refl_drewN _ _ _ _ | assumption | with_reducible apply Gro.more | with_reducible apply Gro.alloc | with_reducible apply Gro.drew | with_reducible apply Gro.drewN))⟩
    · obtain rfl : k = imgs.length := by omega
      have HQ := Lib.hid (show locGo imgs bases e 0 = (-1, -1) from by rw [← hE.out, List.drop_length]; exact locGo_nil _ _ _)
      have z0 := gro_keeps y0 os d
      clear hE
      go_wp2_with (fail)
      go_ret2
      exact ret_two (q := (-1, -1)) HQ.out (hG0.trans (by (repeat (first | with_reducible exact Gro.refl _ | with_reducible exact Gro.refl_drew _ _ _ | with_reducible exact Gro.refl_drewN _ _ _ _ | assumption | with_reducible apply Gro.more | with_reducible apply Gro.alloc | with_reducible apply Gro.drew | with_reducible apply Gro.drewN)); done))
set_option maxRecDepth 100000 in
set_option maxHeartbeats 4000000 in
theorem locate_i {imgs : List DImage} {bases es : List Int} {e : Int} {w : World} {A0 A1 A2 : Option Addr} {c0 c1 c2 : Nat} (h0 : (tImage.sl 96).R w w.heap.size [.slice A0 imgs.length c0] imgs) (h1 : (intT.sl 3).R w w.heap.size [.slice A1 bases.length c1] bases)
    (hl : imgs.length = bases.length) (hst : ∀ x ∈ imgs, x.Code.size ≤ 1099511627776) (hbs : ∀ b ∈ bases, btw b 1 1000000 = true) (he : I64 e) :
    Calls Try.prog 130 #[.agg #[.slice A0 imgs.length c0, .slice A1 bases.length c1, .slice A2 es.length c2], .int .i64 e] w (RetTwo (locGo imgs bases e 0) w) := by
  obtain ⟨_, _, hx', hxl, hcm⟩ := sl_at h0
  injection hx' with e1 e2 e3
  subst e1 e3
  clear e2
  obtain ⟨_, _, hx', hyl, hdm⟩ := sl_at h1
  injection hx' with e1 e2 e3
  subst e1 e3
  clear e2
  obtain ⟨he1, he2⟩ := he
  have hl2 := Nat.le_of_eq hl
  clear hl
  go_enter Try.func130, Try.ntmps130
  go_wp2_with (fail)
  have hG0 : Gro w (w.alloc (.cells #[.slice A0 imgs.length c0, .slice A1 bases.length c1, .slice A2 es.length c2] 33)) := (by repeat (first | with_reducible exact Gro.refl _ | with_reducible exact Gro.refl_drew _ _ _ | with_reducible exact Gro.refl_drewN _ _ _ _ | assumption | with_reducible apply Gro.more | with_reducible apply Gro.alloc | with_reducible apply Gro.drew | with_reducible apply Gro.drewN))
  have eb := heap_alloc_new w (.cells #[.slice A0 imgs.length c0, .slice A1 bases.length c1, .slice A2 es.length c2] 33)
  have k0 := Ty.up _ h0 hG0
  have k1 := Ty.up _ h1 hG0
  obtain ⟨g0, hg0⟩ : ∃ g0, w.heap.size = g0 := ⟨_, rfl⟩
  rw [hg0] at eb ⊢
  generalize w.alloc (.cells #[.slice A0 imgs.length c0, .slice A1 bases.length c1, .slice A2 es.length c2] 33) = Y at hG0 eb k0 k1 ⊢
  clear h0 h1 hg0
  obtain ⟨y0, y1, _, _, yl⟩ := box3 eb
  go_loopw [11] (fun x wr => ∃ k : Nat, x = .int .i64 k ∧ k ≤ imgs.length ∧ Hid (locGo (imgs.drop k) (bases.drop k) e k = locGo imgs bases e 0) ∧ Hid (Gro Y wr)) (fun x _ => imgs.length - (intOf x).toNat)
  case atStart => exact ⟨0, rfl, Nat.zero_le _, Lib.hid rfl, Lib.hid (Gro.refl _)⟩
  case round =>
    obtain ⟨k, rfl, hk, hE, hG⟩ := hrel
    obtain ⟨os, d, rfl⟩ := hG.out
    clear hG
    by_cases hlt : k < imgs.length
    · obtain ⟨g, off, x, A, c, rfl, hgb, hxk, hx0, hx1, bx0, bx1⟩ := atImage k0 hlt
      obtain ⟨gb, offb, b, rfl, hbk, hcb, bb1, bb2⟩ := ints_at k1 (k := k) (by omega)
      have hbl := World.block_lt_of_cell? _ _ hcb
      simp only at hbl
      have hbb := btw_iff.1 (hbs b (List.mem_of_getElem? hbk))
      have hsz := hst x (List.mem_of_getElem? hxk)
      have hz := locGo_at hxk hbk e
      rw [hE.out] at hz
      have hc0 := gro_keeps hx0 os d
      have hc1 := gro_keeps hx1 os d
      have hcb' := gro_keeps hcb os d
      have z0 := gro_keeps y0 os d
      have z1 := gro_keeps y1 os d
      have hki : (k : Int) < (imgs.length : Int) := by omega
      have hki2 : (k : Int) < (bases.length : Int) := by omega
      have w1 : IntKind.i64.wrap (b + (x.Code.size : Int)) = b + (x.Code.size : Int) := IntWalk.i64_in _ (by omega)
      have w3 : IntKind.i64.wrap (b + (x.Code.size : Int) - 1) = b + (x.Code.size : Int) - 1 := IntWalk.i64_in _ (by omega)
      clear hxk hbk hE
      by_cases q : b ≤ e ∧ e < b + (x.Code.size : Int)
      · have hv : btw e b (b + (x.Code.size : Int) - 1) = true := btw_mk q.1 (by omega)
        have HQ := Lib.hid (show locGo imgs bases e 0 = ((k : Int), e - b) from by rw [hz, if_pos q])
        have w2 : IntKind.i64.wrap (e - b) = e - b := IntWalk.i64_in _ (by omega)
        clear hz q
        go_wp2_with (fail)
        go_quiet ((first | (go_at_call 48; with_reducible exact in_iv hv _ _)))
        go_wp2_with (fail)
        go_quiet (fail)
        go_wp2_with (fail)
        go_ret2
        exact ret_two (q := ((k : Int), e - b)) HQ.out (hG0.trans (by (repeat (first | with_reducible exact Gro.refl _ | with_reducible exact Gro.refl_drew _ _ _ | with_reducible exact Gro.refl_drewN _ _ _ _ | assumption | with_reducible apply Gro.more | with_reducible apply Gro.alloc | with_reducible apply Gro.drew | with_reducible apply Gro.drewN)); done))
      · have hv : btw e b (b + (x.Code.size : Int) - 1) = false := by
          cases h : btw e b (b + (x.Code.size : Int) - 1)
          · rfl
          · exact absurd ⟨(btw_iff.1 h).1, by have := (btw_iff.1 h).2; omega⟩ q
        have HE := Lib.hid (show locGo (imgs.drop (k + 1)) (bases.drop (k + 1)) e (k + 1) = locGo imgs bases e 0 from by rw [hz, if_neg q])
        clear hz q
        go_wp2_with (fail)
        go_quiet ((first | (go_at_call 48; with_reducible exact in_iv hv _ _)))
        go_wp2_with (fail)
        go_roundw
        case measure => (simp [intOf]; try omega)
        case rel => exact ⟨k + 1, by go_num, by omega, HE, Lib.hid (by repeat (first | with_reducible exact Gro.refl _ | with_reducible exact Gro.refl_drew _ _ _ | with_reducible exact Gro.refl_drewN _ _ _ _ | assumption | with_reducible apply Gro.more | with_reducible apply Gro.alloc | with_reducible apply Gro.drew | with_reducible apply Gro.drewN))⟩
    · obtain rfl : k = imgs.length := by omega
      have HQ := Lib.hid (show locGo imgs bases e 0 = (-1, -1) from by rw [← hE.out, List.drop_length]; exact locGo_nil _ _ _)
      have z0 := gro_keeps y0 os d
      clear hE
      go_wp2_with (fail)
      go_ret2
      exact ret_two (q := (-1, -1)) HQ.out (hG0.trans (by (repeat (first | with_reducible exact Gro.refl _ | with_reducible exact Gro.refl_drew _ _ _ | with_reducible exact Gro.refl_drewN _ _ _ _ | assumption | with_reducible apply Gro.more | with_reducible apply Gro.alloc | with_reducible apply Gro.drew | with_reducible apply Gro.drewN)); done))
end Go.Proofs.Ytbhobjepjaeffaa
namespace Go.Proofs.Ytbhobjepjaeffaa
open Go.RowKit
theorem symGo_at {syms : List DSymbol} {k : Nat} {x : DSymbol} (hx : syms[k]? = some x) (off : Int) : symGo (syms.drop k) off k = if symHit x off = true then (k : Int) else symGo (syms.drop (k + 1)) off (k + 1) := by
  obtain ⟨h1, rfl⟩ := List.getElem?_eq_some_iff.1 hx
  rw [List.drop_eq_getElem_cons h1]
  rfl
set_option maxRecDepth 100000 in
set_option maxHeartbeats 4000000 in
theorem symAt_s {i : DImage} {off : Int} {w : World} {A : Option Addr} {c : Nat} (h1 : (tSymbol.sl 118).R w w.heap.size [.slice A i.Symbols.length c] i.Symbols) (ho : I64 off) :
    Calls Try.prog 83 #[.agg #[.string i.Code, .slice A i.Symbols.length c], .int .i64 off] w fun r w' => r = .returned (.int .i64 (symGo i.Symbols off 0)) ∧ Gro w w' := by
  obtain ⟨_, _, hx', hxl, hcm⟩ := sl_at h1
  injection hx' with e1 e2 e3
  subst e1 e3
  clear e2
  obtain ⟨code, syms⟩ := i
  simp only at h1 hxl hcm ⊢
  obtain ⟨ho1, ho2⟩ := ho
  go_enter Try.func83, Try.ntmps83
  go_wp2_with (fail)
  have hG0 : Gro w (w.alloc (.cells #[.string code, .slice A syms.length c] 96)) := (by repeat (first | with_reducible exact Gro.refl _ | with_reducible exact Gro.refl_drew _ _ _ | with_reducible exact Gro.refl_drewN _ _ _ _ | assumption | with_reducible apply Gro.more | with_reducible apply Gro.alloc | with_reducible apply Gro.drew | with_reducible apply Gro.drewN))
  have eb := heap_alloc_new w (.cells #[.string code, .slice A syms.length c] 96)
  have h2 := Ty.up _ h1 hG0
  obtain ⟨g0, hg0⟩ : ∃ g0, w.heap.size = g0 := ⟨_, rfl⟩
  rw [hg0] at eb ⊢
  generalize w.alloc (.cells #[.string code, .slice A syms.length c] 96) = Y at hG0 eb h2 ⊢
  clear h1 hg0
  obtain ⟨y0, y1, _, _, yl⟩ := box2 eb
  go_loopw [5] (fun x wr => ∃ (j : Nat), x = .int .i64 j ∧ j ≤ syms.length ∧ Hid (symGo (syms.drop j) off j = symGo syms off 0) ∧ Hid (Gro Y wr)) (fun y _ => syms.length - (intOf y).toNat)
  case atStart => exact ⟨0, rfl, Nat.zero_le _, Lib.hid rfl, Lib.hid (Gro.refl _)⟩
  case round =>
    obtain ⟨j, rfl, hj, hE, hG⟩ := hrel
    obtain ⟨os, d, rfl⟩ := hG.out
    clear hG
    by_cases hlt : j < syms.length
    · obtain ⟨g, offs, x, rfl, hgb, hxk, hx0, hx1, hx2, bx0, bx1, bx2⟩ := atSymbol h2 hlt
      have hF := symGo_at hxk off
      rw [hE.out] at hF
      have hc0 := gro_keeps hx0 os d
      have hc1 := gro_keeps hx1 os d
      have hc2 := gro_keeps hx2 os d
      have z0 := gro_keeps y0 os d
      have z1 := gro_keeps y1 os d
      have hji : (j : Int) < (syms.length : Int) := by omega
      clear hE hxk
      obtain ⟨nm, st, sz⟩ := x
      simp only at hF hc0 hc1 hc2
      have hno : symHit ⟨nm, st, sz⟩ off = false → symGo (syms.drop (j + 1)) off (j + 1) = symGo syms off 0 := fun h => by rw [hF, h]; rfl
      have hyes : symHit ⟨nm, st, sz⟩ off = true → symGo syms off 0 = (j : Int) := fun h => by rw [hF, h]; rfl
      clear hF
      obtain ⟨b0, hb0⟩ : ∃ b, btw st 0 1000000 = b := ⟨_, rfl⟩
      obtain ⟨b1, hb1⟩ : ∃ b, btw sz 0 1000000 = b := ⟨_, rfl⟩
      have HB0 := Lib.hid hb0
      have HB1 := Lib.hid hb1
      cases b0 with
      | false =>
        have HE := Lib.hid (hno (by simp [symHit, hb0]))
        clear hno hyes hb0 hb1
        go_wp2_with (go_at_call 44; (with_reducible refine (in_s _ _ _ _).mono ?_); rw [HB0.out]; rintro e w1 ⟨rfl, rfl⟩)
        go_roundw
        case measure => (simp [intOf]; try omega)
        case rel => exact ⟨j + 1, by go_num, by omega, HE, Lib.hid (by repeat (first | with_reducible exact Gro.refl _ | with_reducible exact Gro.refl_drew _ _ _ | with_reducible exact Gro.refl_drewN _ _ _ _ | assumption | with_reducible apply Gro.more | with_reducible apply Gro.alloc | with_reducible apply Gro.drew | with_reducible apply Gro.drewN))⟩
      | true =>
        cases b1 with
        | false =>
          have HE := Lib.hid (hno (by simp [symHit, hb1]))
          clear hno hyes hb0 hb1
          go_wp2_with (go_at_call 44; (with_reducible refine (in_s _ _ _ _).mono ?_); first | (rw [HB0.out]; rintro e w1 ⟨rfl, rfl⟩) | (rw [HB1.out]; rintro e w1 ⟨rfl, rfl⟩))
          go_roundw
          case measure => (simp [intOf]; try omega)
          case rel => exact ⟨j + 1, by go_num, by omega, HE, Lib.hid (by repeat (first | with_reducible exact Gro.refl _ | with_reducible exact Gro.refl_drew _ _ _ | with_reducible exact Gro.refl_drewN _ _ _ _ | assumption | with_reducible apply Gro.more | with_reducible apply Gro.alloc | with_reducible apply Gro.drew | with_reducible apply Gro.drewN))⟩
        | true =>
          have r0 := btw_iff.1 hb0
          have r1 := btw_iff.1 hb1
          have w1 : IntKind.i64.wrap (st + sz) = st + sz := IntWalk.i64_in _ ⟨by omega, by omega⟩
          by_cases q2 : st ≤ off
          case neg =>
            have s2 : decide (st ≤ off) = false := decide_eq_false q2
            have HE := Lib.hid (hno (by simp [symHit, q2]))
            clear hno hyes hb0 hb1
            go_wp2_with (go_at_call 44; (with_reducible refine (in_s _ _ _ _).mono ?_); first | (rw [HB0.out]; rintro e w1 ⟨rfl, rfl⟩) | (rw [HB1.out]; rintro e w1 ⟨rfl, rfl⟩))
            go_roundw
            case measure => (simp [intOf]; try omega)
            case rel => exact ⟨j + 1, by go_num, by omega, HE, Lib.hid (by repeat (first | with_reducible exact Gro.refl _ | with_reducible exact Gro.refl_drew _ _ _ | with_reducible exact Gro.refl_drewN _ _ _ _ | assumption | with_reducible apply Gro.more | with_reducible apply Gro.alloc | with_reducible apply Gro.drew | with_reducible apply Gro.drewN))⟩
          have s2 : decide (st ≤ off) = true := decide_eq_true q2
          by_cases q3 : off < st + sz
          case neg =>
            have s3 : decide (off < st + sz) = false := decide_eq_false q3
            have HE := Lib.hid (hno (by simp [symHit, q3]))
            clear hno hyes hb0 hb1
            go_wp2_with (go_at_call 44; (with_reducible refine (in_s _ _ _ _).mono ?_); first | (rw [HB0.out]; rintro e w1 ⟨rfl, rfl⟩) | (rw [HB1.out]; rintro e w1 ⟨rfl, rfl⟩))
            go_roundw
            case measure => (simp [intOf]; try omega)
            case rel => exact ⟨j + 1, by go_num, by omega, HE, Lib.hid (by repeat (first | with_reducible exact Gro.refl _ | with_reducible exact Gro.refl_drew _ _ _ | with_reducible exact Gro.refl_drewN _ _ _ _ | assumption | with_reducible apply Gro.more | with_reducible apply Gro.alloc | with_reducible apply Gro.drew | with_reducible apply Gro.drewN))⟩
          have s3 : decide (off < st + sz) = true := decide_eq_true q3
          have HE := Lib.hid (hyes (by simp [symHit, q2, q3, hb0, hb1]))
          clear hno hyes hb0 hb1
          go_wp2_with (go_at_call 44; (with_reducible refine (in_s _ _ _ _).mono ?_); first | (rw [HB0.out]; rintro e w1 ⟨rfl, rfl⟩) | (rw [HB1.out]; rintro e w1 ⟨rfl, rfl⟩))
          go_ret
          exact ⟨ret_int HE.out.symm, hG0.trans (by (repeat (first | with_reducible exact Gro.refl _ | with_reducible exact Gro.refl_drew _ _ _ | with_reducible exact Gro.refl_drewN _ _ _ _ | assumption | with_reducible apply Gro.more | with_reducible apply Gro.alloc | with_reducible apply Gro.drew | with_reducible apply Gro.drewN)); done)⟩
    · obtain rfl : j = syms.length := by omega
      have HQ := Lib.hid (show symGo syms off 0 = -1 from by rw [← hE.out, List.drop_length]; rfl)
      have z0 := gro_keeps y0 os d
      have z1 := gro_keeps y1 os d
      clear hE
      go_wp2_with (fail)
      go_ret
      exact ⟨ret_int HQ.out.symm, hG0.trans (by (repeat (first | with_reducible exact Gro.refl _ | with_reducible exact Gro.refl_drew _ _ _ | with_reducible exact Gro.refl_drewN _ _ _ _ | assumption | with_reducible apply Gro.more | with_reducible apply Gro.alloc | with_reducible apply Gro.drew | with_reducible apply Gro.drewN)); done)⟩
theorem locate2_s {i j : DImage} {a b : Int} {es : List Int} {e : Int} {w : World} {A0 A1 A2 : Option Addr} {c0 c1 c2 : Nat} (h0 : (tImage.sl 96).R w w.heap.size [.slice A0 2 c0] [i, j]) (h1 : (intT.sl 3).R w w.heap.size [.slice A1 2 c1] [a, b])
    (hi : i.Code.size ≤ 1099511627776) (hj : j.Code.size ≤ 1099511627776) (ha : btw a 1 1000000 = true) (hb : btw b 1 1000000 = true) (he : I64 e) :
    Calls Try.prog 82 #[.agg #[.slice A0 2 c0, .slice A1 2 c1, .slice A2 es.length c2], .int .i64 e] w (RetTwo (locGo [i, j] [a, b] e 0) w) :=
  locate_s (imgs := [i, j]) (bases := [a, b]) h0 h1 rfl (fun x hx => by
    simp only [List.mem_cons, List.not_mem_nil, or_false] at hx
    rcases hx with rfl | rfl
    · exact hi
    · exact hj) (fun x hx => by
    simp only [List.mem_cons, List.not_mem_nil, or_false] at hx
    rcases hx with rfl | rfl
    · exact ha
    · exact hb) he
set_option maxRecDepth 100000 in
set_option maxHeartbeats 8000000 in
theorem spaceOk_s {s : DSpace} {w : World} {A0 A1 A2 : Option Addr} {c0 c1 c2 : Nat} (h0 : (tImage.sl 96).R w w.heap.size [.slice A0 s.Images.length c0] s.Images) (h1 : (intT.sl 3).R w w.heap.size [.slice A1 s.Bases.length c1] s.Bases)
    (h2 : (intT.sl 3).R w w.heap.size [.slice A2 s.Entries.length c2] s.Entries) (hs : szSpace s ≤ 1099511627776) :
    Calls Try.prog 43 #[.agg #[.slice A0 s.Images.length c0, .slice A1 s.Bases.length c1, .slice A2 s.Entries.length c2]] w fun r w' => r = .returned (.bool (spaceOk s)) ∧ Gro w w' := by
  by_cases hi : s.Images.length = 2
  case neg =>
    have HQ := Lib.hid (space_img hi)
    have p1 : ((s.Images.length : Int) != 2) = true := by simp; omega
    clear hi
    go_enter Try.func43, Try.ntmps43
    go_wp2_with (fail)
    go_ret
    exact ⟨ret_bool HQ.out.symm, (by repeat (first | with_reducible exact Gro.refl _ | with_reducible exact Gro.refl_drew _ _ _ | with_reducible exact Gro.refl_drewN _ _ _ _ | assumption | with_reducible apply Gro.more | with_reducible apply Gro.alloc | with_reducible apply Gro.drew | with_reducible apply Gro.drewN))⟩
  by_cases hj : s.Bases.length = 2
  case neg =>
    have HQ := Lib.hid (space_bas hj)
    have p1 : ((s.Images.length : Int) != 2) = false := by simp; omega
    have p2 : ((s.Bases.length : Int) != 2) = true := by simp; omega
    clear hi hj
    go_enter Try.func43, Try.ntmps43
    go_wp2_with (fail)
    go_ret
    exact ⟨ret_bool HQ.out.symm, (by repeat (first | with_reducible exact Gro.refl _ | with_reducible exact Gro.refl_drew _ _ _ | with_reducible exact Gro.refl_drewN _ _ _ _ | assumption | with_reducible apply Gro.more | with_reducible apply Gro.alloc | with_reducible apply Gro.drew | with_reducible apply Gro.drewN))⟩
  cases he : btw s.Entries.length 1 6 with
  | false =>
    have HQ := Lib.hid (space_ent he)
    have HE := Lib.hid he
    have p1 : ((s.Images.length : Int) != 2) = false := by simp; omega
    have p2 : ((s.Bases.length : Int) != 2) = false := by simp; omega
    clear hi hj he
    go_enter Try.func43, Try.ntmps43
    go_wp2_with (go_at_call 44; (with_reducible refine (in_s _ _ _ _).mono ?_); rw [HE.out]; rintro e w1 ⟨rfl, rfl⟩)
    go_ret
    exact ⟨ret_bool HQ.out.symm, (by repeat (first | with_reducible exact Gro.refl _ | with_reducible exact Gro.refl_drew _ _ _ | with_reducible exact Gro.refl_drewN _ _ _ _ | assumption | with_reducible apply Gro.more | with_reducible apply Gro.alloc | with_reducible apply Gro.drew | with_reducible apply Gro.drewN))⟩
  | true =>
  obtain ⟨imgs, bases, es⟩ := s
  simp only at h0 h1 h2 hi hj he hs ⊢
  have HE := Lib.hid he
  have hel := btw_iff.1 he
  obtain ⟨i, j, rfl⟩ := len_two hi
  obtain ⟨a, b, rfl⟩ := len_two hj
  have HS := Lib.hid (@space_two i j a b es)
  rw [he] at HS
  clear hi hj he
  obtain ⟨_, _, hx', hzl, hzm⟩ := sl_at h2
  injection hx' with e1 e2 e3
  subst e1 e3
  clear e2
  have hsz : szImage i + szImage j + 2 + 2 + es.length ≤ 1099511627776 := by simp [szSpace, szL] at hs; omega
  have hci : i.Code.size ≤ 1099511627776 := by unfold szImage at hsz; omega
  have hcj : j.Code.size ≤ 1099511627776 := by unfold szImage at hsz; omega
  have hsi : i.Symbols.length ≤ 1099511627776 := by unfold szImage at hsz; have := szL_len szSymbol i.Symbols; omega
  have hsj : j.Symbols.length ≤ 1099511627776 := by unfold szImage at hsz; have := szL_len szSymbol j.Symbols; omega
  clear hsz hs
  simp only [List.length_cons, List.length_nil] at h0 h1 ⊢
  go_enter Try.func43, Try.ntmps43
  go_wp2_with (go_at_call 44; (with_reducible refine (in_s _ _ _ _).mono ?_); rw [HE.out]; rintro e w1 ⟨rfl, rfl⟩)
  have hG0 : Gro w (w.alloc (.cells #[.slice A0 2 c0, .slice A1 2 c1, .slice A2 es.length c2] 33)) := (by repeat (first | with_reducible exact Gro.refl _ | with_reducible exact Gro.refl_drew _ _ _ | with_reducible exact Gro.refl_drewN _ _ _ _ | assumption | with_reducible apply Gro.more | with_reducible apply Gro.alloc | with_reducible apply Gro.drew | with_reducible apply Gro.drewN))
  have eb := heap_alloc_new w (.cells #[.slice A0 2 c0, .slice A1 2 c1, .slice A2 es.length c2] 33)
  have k0 := Ty.up _ h0 hG0
  have k1 := Ty.up _ h1 hG0
  have k2 := Ty.up _ h2 hG0
  obtain ⟨g0, hg0⟩ : ∃ g0, w.heap.size = g0 := ⟨_, rfl⟩
  rw [hg0] at eb ⊢
  generalize w.alloc (.cells #[.slice A0 2 c0, .slice A1 2 c1, .slice A2 es.length c2] 33) = Y at hG0 eb k0 k1 k2 ⊢
  clear h0 h1 h2 hg0
  obtain ⟨y0, y1, y2, _, yl⟩ := box3 eb
  obtain ⟨gi, oi, Ai, ci, Aj, cj, rfl, hgi, i0, i1, j0, j1, bi0, bj0, bi1, bj1⟩ := image_two k0
  obtain ⟨gb, ob, rfl, b0, b1, ⟨ba1, ba2⟩, ⟨bb1, bb2⟩⟩ := ints_two k1
  have hgb := World.block_lt_of_cell? _ _ b0
  simp only at hgb
  go_loopw [3] (fun x wr => ((x = .int .i64 0) ∨ (x = .int .i64 1 ∧ imageOk i = true ∧ btw a 1 1000000 = true) ∨ (x = .int .i64 2 ∧ imageOk i = true ∧ btw a 1 1000000 = true ∧ imageOk j = true ∧ btw b 1 1000000 = true)) ∧ Hid (Gro Y wr)) (fun x _ => 2 - (intOf x).toNat)
  case atStart => exact ⟨.inl rfl, Lib.hid (Gro.refl _)⟩
  case round =>
    obtain ⟨hcase, hG⟩ := hrel
    obtain ⟨os, d, rfl⟩ := hG.out
    clear hG
    rcases hcase with rfl | ⟨rfl, hq1, hq2⟩ | ⟨rfl, hq1, hq2, hq3, hq4⟩
    · have d0 := gro_keeps i0 os d
      have d1 := gro_keeps i1 os d
      have d2 := gro_keeps b0 os d
      have z0 := gro_keeps y0 os d
      have z1 := gro_keeps y1 os d
      obtain ⟨ik, hk⟩ : ∃ ik, imageOk i = ik := ⟨_, rfl⟩
      cases ik with
      | false =>
        have HK := Lib.hid hk
        have HQ := Lib.hid (show spaceOk ⟨[i, j], [a, b], es⟩ = false from by rw [HS.out, hk]; simp)
        clear hk
        go_wp2_with (go_at_call 81; (with_reducible refine (imageOk_s (i := i) (Ty.up _ bi1 (by repeat (first | with_reducible exact Gro.refl _ | with_reducible exact Gro.refl_drew _ _ _ | with_reducible exact Gro.refl_drewN _ _ _ _ | assumption | with_reducible apply Gro.more | with_reducible apply Gro.alloc | with_reducible apply Gro.drew | with_reducible apply Gro.drewN))) hci hsi).mono ?_); rw [HK.out]; rintro e w1 ⟨rfl, os1, d1, rfl⟩)
        go_ret
        exact ⟨ret_bool HQ.out.symm, hG0.trans (by (repeat (first | with_reducible exact Gro.refl _ | with_reducible exact Gro.refl_drew _ _ _ | with_reducible exact Gro.refl_drewN _ _ _ _ | assumption | with_reducible apply Gro.more | with_reducible apply Gro.alloc | with_reducible apply Gro.drew | with_reducible apply Gro.drewN)); done)⟩
      | true =>
        obtain ⟨bk, hb⟩ : ∃ bk, btw a 1 1000000 = bk := ⟨_, rfl⟩
        cases bk with
        | false =>
          have HK := Lib.hid hk
          have HB := Lib.hid hb
          have HQ := Lib.hid (show spaceOk ⟨[i, j], [a, b], es⟩ = false from by rw [HS.out, hb]; simp)
          clear hk hb
          go_wp2_with (first
            | (go_at_call 81; (with_reducible refine (imageOk_s (i := i) (Ty.up _ bi1 (by repeat (first | with_reducible exact Gro.refl _ | with_reducible exact Gro.refl_drew _ _ _ | with_reducible exact Gro.refl_drewN _ _ _ _ | assumption | with_reducible apply Gro.more | with_reducible apply Gro.alloc | with_reducible apply Gro.drew | with_reducible apply Gro.drewN))) hci hsi).mono ?_); rw [HK.out]; rintro e w1 ⟨rfl, os1, d1, rfl⟩)
            | (go_at_call 44; (with_reducible refine (in_s _ _ _ _).mono ?_); rw [HB.out]; rintro e w1 ⟨rfl, rfl⟩))
          go_ret
          exact ⟨ret_bool HQ.out.symm, hG0.trans (by (repeat (first | with_reducible exact Gro.refl _ | with_reducible exact Gro.refl_drew _ _ _ | with_reducible exact Gro.refl_drewN _ _ _ _ | assumption | with_reducible apply Gro.more | with_reducible apply Gro.alloc | with_reducible apply Gro.drew | with_reducible apply Gro.drewN)); done)⟩
        | true =>
          have HK := Lib.hid hk
          have HB := Lib.hid hb
          clear hk hb
          go_wp2_with (first
            | (go_at_call 81; (with_reducible refine (imageOk_s (i := i) (Ty.up _ bi1 (by repeat (first | with_reducible exact Gro.refl _ | with_reducible exact Gro.refl_drew _ _ _ | with_reducible exact Gro.refl_drewN _ _ _ _ | assumption | with_reducible apply Gro.more | with_reducible apply Gro.alloc | with_reducible apply Gro.drew | with_reducible apply Gro.drewN))) hci hsi).mono ?_); rw [HK.out]; rintro e w1 ⟨rfl, os1, d1, rfl⟩)
            | (go_at_call 44; (with_reducible refine (in_s _ _ _ _).mono ?_); rw [HB.out]; rintro e w1 ⟨rfl, rfl⟩))
          go_roundw
          case measure => (simp [intOf]; try omega)
          case rel => exact ⟨.inr (.inl ⟨rfl, HK.out, HB.out⟩), Lib.hid (by repeat (first | with_reducible exact Gro.refl _ | with_reducible exact Gro.refl_drew _ _ _ | with_reducible exact Gro.refl_drewN _ _ _ _ | assumption | with_reducible apply Gro.more | with_reducible apply Gro.alloc | with_reducible apply Gro.drew | with_reducible apply Gro.drewN))⟩
    · have d0 := gro_keeps j0 os d
      have d1 := gro_keeps j1 os d
      have d2 := gro_keeps b1 os d
      have z0 := gro_keeps y0 os d
      have z1 := gro_keeps y1 os d
      obtain ⟨ik, hk⟩ : ∃ ik, imageOk j = ik := ⟨_, rfl⟩
      cases ik with
      | false =>
        have HK := Lib.hid hk
        have HQ := Lib.hid (show spaceOk ⟨[i, j], [a, b], es⟩ = false from by rw [HS.out, hk]; simp)
        clear hk
        go_wp2_with (go_at_call 81; (with_reducible refine (imageOk_s (i := j) (Ty.up _ bj1 (by repeat (first | with_reducible exact Gro.refl _ | with_reducible exact Gro.refl_drew _ _ _ | with_reducible exact Gro.refl_drewN _ _ _ _ | assumption | with_reducible apply Gro.more | with_reducible apply Gro.alloc | with_reducible apply Gro.drew | with_reducible apply Gro.drewN))) hcj hsj).mono ?_); rw [HK.out]; rintro e w1 ⟨rfl, os1, d1, rfl⟩)
        go_ret
        exact ⟨ret_bool HQ.out.symm, hG0.trans (by (repeat (first | with_reducible exact Gro.refl _ | with_reducible exact Gro.refl_drew _ _ _ | with_reducible exact Gro.refl_drewN _ _ _ _ | assumption | with_reducible apply Gro.more | with_reducible apply Gro.alloc | with_reducible apply Gro.drew | with_reducible apply Gro.drewN)); done)⟩
      | true =>
        obtain ⟨bk, hb⟩ : ∃ bk, btw b 1 1000000 = bk := ⟨_, rfl⟩
        cases bk with
        | false =>
          have HK := Lib.hid hk
          have HB := Lib.hid hb
          have HQ := Lib.hid (show spaceOk ⟨[i, j], [a, b], es⟩ = false from by rw [HS.out, hb]; simp)
          clear hk hb
          go_wp2_with (first
            | (go_at_call 81; (with_reducible refine (imageOk_s (i := j) (Ty.up _ bj1 (by repeat (first | with_reducible exact Gro.refl _ | with_reducible exact Gro.refl_drew _ _ _ | with_reducible exact Gro.refl_drewN _ _ _ _ | assumption | with_reducible apply Gro.more | with_reducible apply Gro.alloc | with_reducible apply Gro.drew | with_reducible apply Gro.drewN))) hcj hsj).mono ?_); rw [HK.out]; rintro e w1 ⟨rfl, os1, d1, rfl⟩)
            | (go_at_call 44; (with_reducible refine (in_s _ _ _ _).mono ?_); rw [HB.out]; rintro e w1 ⟨rfl, rfl⟩))
          go_ret
          exact ⟨ret_bool HQ.out.symm, hG0.trans (by (repeat (first | with_reducible exact Gro.refl _ | with_reducible exact Gro.refl_drew _ _ _ | with_reducible exact Gro.refl_drewN _ _ _ _ | assumption | with_reducible apply Gro.more | with_reducible apply Gro.alloc | with_reducible apply Gro.drew | with_reducible apply Gro.drewN)); done)⟩
        | true =>
          have HK := Lib.hid hk
          have HB := Lib.hid hb
          clear hk hb
          go_wp2_with (first
            | (go_at_call 81; (with_reducible refine (imageOk_s (i := j) (Ty.up _ bj1 (by repeat (first | with_reducible exact Gro.refl _ | with_reducible exact Gro.refl_drew _ _ _ | with_reducible exact Gro.refl_drewN _ _ _ _ | assumption | with_reducible apply Gro.more | with_reducible apply Gro.alloc | with_reducible apply Gro.drew | with_reducible apply Gro.drewN))) hcj hsj).mono ?_); rw [HK.out]; rintro e w1 ⟨rfl, os1, d1, rfl⟩)
            | (go_at_call 44; (with_reducible refine (in_s _ _ _ _).mono ?_); rw [HB.out]; rintro e w1 ⟨rfl, rfl⟩))
          go_roundw
          case measure => (simp [intOf]; try omega)
          case rel => exact ⟨.inr (.inr ⟨rfl, hq1, hq2, HK.out, HB.out⟩), Lib.hid (by repeat (first | with_reducible exact Gro.refl _ | with_reducible exact Gro.refl_drew _ _ _ | with_reducible exact Gro.refl_drewN _ _ _ _ | assumption | with_reducible apply Gro.more | with_reducible apply Gro.alloc | with_reducible apply Gro.drew | with_reducible apply Gro.drewN))⟩
    · have i0' := gro_keeps i0 os d
      have j0' := gro_keeps j0 os d
      have b0' := gro_keeps b0 os d
      have b1' := gro_keeps b1 os d
      have z0 := gro_keeps y0 os d
      have z1 := gro_keeps y1 os d
      have z2 := gro_keeps y2 os d
      have ra := btw_iff.1 hq2
      have rb := btw_iff.1 hq4
      have HS2 : spaceOk ⟨[i, j], [a, b], es⟩ = (!ovl i j a b && es.all (isEnt ⟨[i, j], [a, b], es⟩)) := by rw [HS.out, hq1, hq2, hq3, hq4]; simp
      have HS3 := Lib.hid HS2
      clear HS2 HS
      have HI := Lib.hid hq1
      have HJ := Lib.hid hq3
      have HA := Lib.hid hq2
      have HB := Lib.hid hq4
      clear hq1 hq2 hq3 hq4
      have hGX : Gro Y (gro Y os d) := (by repeat (first | with_reducible exact Gro.refl _ | with_reducible exact Gro.refl_drew _ _ _ | with_reducible exact Gro.refl_drewN _ _ _ _ | assumption | with_reducible apply Gro.more | with_reducible apply Gro.alloc | with_reducible apply Gro.drew | with_reducible apply Gro.drewN))
      generalize gro Y os d = X at hGX ⊢
      clear i0' j0' b0' b1' z0 z1 z2
      have i0' := cell_up hGX i0
      have j0' := cell_up hGX j0
      have b0' := cell_up hGX b0
      have b1' := cell_up hGX b1
      have z0 := cell_up hGX y0
      have z1 := cell_up hGX y1
      have z2 := cell_up hGX y2
      have w1 : IntKind.i64.wrap (b + (j.Code.size : Int)) = b + (j.Code.size : Int) := IntWalk.i64_in _ ⟨by omega, by omega⟩
      have w2 : IntKind.i64.wrap (a + (i.Code.size : Int)) = a + (i.Code.size : Int) := IntWalk.i64_in _ ⟨by omega, by omega⟩
      go_upto_region 10 with fail
      go_cut [90] from 59 to 90 (fun r wx => r = .bool (ovl i j a b) ∧ Hid (Gro X wx))
      case first =>
        by_cases q0 : (0 : Int) < (i.Code.size : Int)
        · have r0 : decide ((0 : Int) < (i.Code.size : Int)) = true := decide_eq_true q0
          have s0 : 0 < i.Code.size := by omega
          have t0 : decide (0 < i.Code.size) = true := decide_eq_true s0
          by_cases q1 : (0 : Int) < (j.Code.size : Int)
          · have r1 : decide ((0 : Int) < (j.Code.size : Int)) = true := decide_eq_true q1
            have s1 : 0 < j.Code.size := by omega
            have t1 : decide (0 < j.Code.size) = true := decide_eq_true s1
            by_cases q2 : a < b + (j.Code.size : Int)
            · have r2 : decide (a < b + (j.Code.size : Int)) = true := decide_eq_true q2
              by_cases q3 : b < a + (i.Code.size : Int)
              · have r3 : decide (b < a + (i.Code.size : Int)) = true := decide_eq_true q3
                go_quiet (fail)
                go_wp2_with (fail)
                go_meet
                exact ⟨by unfold ovl; rw [t0, t1, r2, r3]; simp, Lib.hid (by repeat (first | with_reducible exact Gro.refl _ | with_reducible exact Gro.refl_drew _ _ _ | with_reducible exact Gro.refl_drewN _ _ _ _ | assumption | with_reducible apply Gro.more | with_reducible apply Gro.alloc | with_reducible apply Gro.drew | with_reducible apply Gro.drewN))⟩
              · have r3 : decide (b < a + (i.Code.size : Int)) = false := decide_eq_false q3
                go_quiet (fail)
                go_wp2_with (fail)
                go_meet
                exact ⟨by unfold ovl; rw [t0, t1, r2, r3]; simp, Lib.hid (by repeat (first | with_reducible exact Gro.refl _ | with_reducible exact Gro.refl_drew _ _ _ | with_reducible exact Gro.refl_drewN _ _ _ _ | assumption | with_reducible apply Gro.more | with_reducible apply Gro.alloc | with_reducible apply Gro.drew | with_reducible apply Gro.drewN))⟩
            · have r2 : decide (a < b + (j.Code.size : Int)) = false := decide_eq_false q2
              go_quiet (fail)
              go_wp2_with (fail)
              go_meet
              exact ⟨by unfold ovl; rw [t0, t1, r2]; simp, Lib.hid (by repeat (first | with_reducible exact Gro.refl _ | with_reducible exact Gro.refl_drew _ _ _ | with_reducible exact Gro.refl_drewN _ _ _ _ | assumption | with_reducible apply Gro.more | with_reducible apply Gro.alloc | with_reducible apply Gro.drew | with_reducible apply Gro.drewN))⟩
          · have r1 : decide ((0 : Int) < (j.Code.size : Int)) = false := decide_eq_false q1
            have s1 : ¬ 0 < j.Code.size := by omega
            have t1 : decide (0 < j.Code.size) = false := decide_eq_false s1
            go_quiet (fail)
            go_wp2_with (fail)
            go_meet
            exact ⟨by unfold ovl; rw [t0, t1]; simp, Lib.hid (by repeat (first | with_reducible exact Gro.refl _ | with_reducible exact Gro.refl_drew _ _ _ | with_reducible exact Gro.refl_drewN _ _ _ _ | assumption | with_reducible apply Gro.more | with_reducible apply Gro.alloc | with_reducible apply Gro.drew | with_reducible apply Gro.drewN))⟩
        · have r0 : decide ((0 : Int) < (i.Code.size : Int)) = false := decide_eq_false q0
          have s0 : ¬ 0 < i.Code.size := by omega
          have t0 : decide (0 < i.Code.size) = false := decide_eq_false s0
          go_quiet (fail)
          go_wp2_with (fail)
          go_meet
          exact ⟨by unfold ovl; rw [t0]; simp, Lib.hid (by repeat (first | with_reducible exact Gro.refl _ | with_reducible exact Gro.refl_drew _ _ _ | with_reducible exact Gro.refl_drewN _ _ _ _ | assumption | with_reducible apply Gro.more | with_reducible apply Gro.alloc | with_reducible apply Gro.drew | with_reducible apply Gro.drewN))⟩
      case rest =>
        obtain ⟨rfl, hGw⟩ := hcut
        have hYw : Gro Y wc := hGX.trans hGw.out
        have hGc : Gro w wc := hG0.trans hYw
        clear i0' j0' b0' b1' z0 z1 z2 hGX hGw
        obtain ⟨vb, hv⟩ : ∃ vb, ovl i j a b = vb := ⟨_, rfl⟩
        rw [hv]
        cases vb with
        | true =>
          have HQ := Lib.hid (show spaceOk ⟨[i, j], [a, b], es⟩ = false from by rw [HS3.out, hv]; rfl)
          clear hv
          go_wp2_with (fail)
          go_ret
          exact ⟨ret_bool HQ.out.symm, hGc⟩
        | false =>
          have HQ := Lib.hid (show spaceOk ⟨[i, j], [a, b], es⟩ = es.all (isEnt ⟨[i, j], [a, b], es⟩) from by rw [HS3.out, hv]; rfl)
          have z0 := cell_up hYw y0
          have z1 := cell_up hYw y1
          have z2 := cell_up hYw y2
          have zl : g0 < wc.heap.size := Nat.lt_of_lt_of_le yl hYw.size
          have m0 := Ty.up _ k0 hYw
          have m1 := Ty.up _ k1 hYw
          have m2 := Ty.up _ k2 hYw
          have HOV := Lib.hid (show ¬ (0 < i.Code.size ∧ 0 < j.Code.size ∧ a < b + j.Code.size ∧ b < a + i.Code.size) from fun h => by
            unfold ovl at hv
            rw [decide_eq_true h.1, decide_eq_true h.2.1, decide_eq_true h.2.2.1, decide_eq_true h.2.2.2] at hv
            cases hv)
          clear hv HS3 w1 w2
          go_wp2_with (fail)
          have HENT := Lib.hid (fun e => ent_eq (es := es) HI.out HJ.out (btw_iff.1 HA.out).1 (btw_iff.1 HB.out).1 (show ¬ (0 < i.Code.size ∧ 0 < j.Code.size ∧ a < b + j.Code.size ∧ b < a + i.Code.size) from HOV.out) e)
          have wi0 := cell_up hYw i0
          have wi1 := cell_up hYw i1
          have wj0 := cell_up hYw j0
          have wj1 := cell_up hYw j1
          have hgiw : gi < wc.heap.size := Nat.lt_of_lt_of_le hgi hYw.size
          go_loopw [6] (fun x wr => ∃ k : Nat, x = .int .i64 k ∧ k ≤ es.length ∧ Hid ((es.drop k).all (isEnt ⟨[i, j], [a, b], es⟩) = es.all (isEnt ⟨[i, j], [a, b], es⟩)) ∧ Hid (Gro wc wr)) (fun x _ => es.length - (intOf x).toNat)
          case atStart => exact ⟨0, rfl, Nat.zero_le _, Lib.hid rfl, Lib.hid (Gro.refl _)⟩
          case round =>
            obtain ⟨k, rfl, hk, hE, hG⟩ := hrel
            obtain ⟨os, d, rfl⟩ := hG.out
            clear hG
            by_cases hlt : k < es.length
            · obtain ⟨ge, oe, e, rfl, hek, hce, be1, be2⟩ := ints_at m2 hlt
              have ha := all_at hek (isEnt ⟨[i, j], [a, b], es⟩)
              rw [hE.out] at ha
              have hc := gro_keeps hce os d
              have hel2 := World.block_lt_of_cell? _ _ hce
              simp only at hel2
              have z0' := gro_keeps z0 os d
              have z1' := gro_keeps z1 os d
              have z2' := gro_keeps z2 os d
              have hki : (k : Int) < (es.length : Int) := by omega
              have he64 : I64 e := ⟨be1, be2⟩
              clear hek hE
              have hno : isEnt ⟨[i, j], [a, b], es⟩ e = false → spaceOk ⟨[i, j], [a, b], es⟩ = false := fun h => by rw [HQ.out, ha, h]; rfl
              have hyes : isEnt ⟨[i, j], [a, b], es⟩ e = true → (es.drop (k + 1)).all (isEnt ⟨[i, j], [a, b], es⟩) = es.all (isEnt ⟨[i, j], [a, b], es⟩) := fun h => by rw [ha, h]; rfl
              rw [← HENT.out e] at hno hyes
              clear ha
              have hloc : (locGo [i, j] [a, b] e 0 = (0, e - a) ∧ a ≤ e ∧ e < a + i.Code.size) ∨ (locGo [i, j] [a, b] e 0 = (1, e - b) ∧ b ≤ e ∧ e < b + j.Code.size) ∨ locGo [i, j] [a, b] e 0 = (-1, -1) := by
                simp only [locGo]
                split
                · rename_i h; exact .inl ⟨rfl, h.1, h.2⟩
                · split
                  · rename_i h; exact .inr (.inl ⟨rfl, h.1, h.2⟩)
                  · exact .inr (.inr rfl)
              rcases hloc with ⟨hloc, q1, q2⟩ | ⟨hloc, q1, q2⟩ | hloc
              · have HL := Lib.hid hloc
                obtain ⟨off, hoff⟩ : ∃ off, e - a = off := ⟨_, rfl⟩
                have ho64 : I64 off := ⟨by omega, by omega⟩
                have hsg := symGo_some i.Symbols off 0
                rcases hsg with hsg | ⟨m, y, hsg, hym, _⟩
                · have HF := Lib.hid (hno (by simp [entS, loc, hloc, hoff, hsg]; split <;> rfl))
                  have HN := Lib.hid hsg
                  rw [hoff] at HL
                  clear hno hyes hloc hsg hoff
                  go_wp2_with (fail)
                  go_region_held3 (fun w' => w'.cell? ⟨g0, 0, none⟩ = some (.slice (some ⟨gi, oi, none⟩) 2 c0) ∧ w'.cell? ⟨g0, 1, none⟩ = some (.slice (some ⟨gb, ob, none⟩) 2 c1) ∧ w'.cell? ⟨g0, 2, none⟩ = some (.slice (some ⟨ge, oe, none⟩) es.length c2) ∧ w'.cell? ⟨ge, oe + k, none⟩ = some (.int .i64 e)) ((repeat' apply And.intro) <;> (first | ((repeat (first | assumption | with_reducible refine gro_keeps ?_ _ _ | with_reducible refine alloc_keeps ?_ _ | with_reducible refine drew_keeps ?_)); done) | (simp [go_sem]; done))) (first
                    | (go_at_call 82; (with_reducible refine (locate2_s (i := i) (j := j) (a := a) (b := b) (es := es) (e := e) (Ty.up _ m0 (by repeat (first | with_reducible exact Gro.refl _ | with_reducible exact Gro.refl_drew _ _ _ | with_reducible exact Gro.refl_drewN _ _ _ _ | assumption | with_reducible apply Gro.more | with_reducible apply Gro.alloc | with_reducible apply Gro.drew | with_reducible apply Gro.drewN))) (Ty.up _ m1 (by repeat (first | with_reducible exact Gro.refl _ | with_reducible exact Gro.refl_drew _ _ _ | with_reducible exact Gro.refl_drewN _ _ _ _ | assumption | with_reducible apply Gro.more | with_reducible apply Gro.alloc | with_reducible apply Gro.drew | with_reducible apply Gro.drewN))) hci hcj HA.out HB.out he64).mono ?_); rw [HL.out]; rintro e w1 ⟨rfl, os1, d1, rfl⟩))
                  go_wp2_with (go_at_call 83; (with_reducible refine (symAt_s (i := i) (Ty.up _ bi1 (by repeat (first | with_reducible exact Gro.refl _ | with_reducible exact Gro.refl_drew _ _ _ | with_reducible exact Gro.refl_drewN _ _ _ _ | assumption | with_reducible apply Gro.more | with_reducible apply Gro.alloc | with_reducible apply Gro.drew | with_reducible apply Gro.drewN))) ho64).mono ?_); rw [HN.out]; rintro e w2 ⟨rfl, os2, d2, rfl⟩)
                  go_ret
                  exact ⟨ret_bool HF.out.symm, hGc.trans (by (repeat (first | with_reducible exact Gro.refl _ | with_reducible exact Gro.refl_drew _ _ _ | with_reducible exact Gro.refl_drewN _ _ _ _ | assumption | with_reducible apply Gro.more | with_reducible apply Gro.alloc | with_reducible apply Gro.drew | with_reducible apply Gro.drewN)); done)⟩
                · rw [Nat.zero_add] at hsg
                  have hml : m < i.Symbols.length := (List.getElem?_eq_some_iff.1 hym).1
                  obtain ⟨gs, osy, y', hAe, hgs, hyk, hy0, hy1, hy2, by0, by1, by2⟩ := atSymbol bi1 hml
                  subst hAe
                  obtain rfl : y' = y := by rw [hyk] at hym; exact Option.some.inj hym
                  have hval : entS ⟨[i, j], [a, b], es⟩ e = decide (y'.Start = off) := by simp [entS, loc, hloc, hoff, hsg, hyk]
                  rw [hval] at hno hyes
                  have HN := Lib.hid hsg
                  rw [hoff] at HL
                  have hmi : (m : Int) < (i.Symbols.length : Int) := by omega
                  have v1 := cell_up hYw hy1
                  have hgsw : gs < wc.heap.size := Nat.lt_of_lt_of_le hgs hYw.size
                  have hgsY := hgs
                  clear hloc hsg hoff hyk hym hval
                  by_cases q3 : y'.Start = off
                  · have HF := Lib.hid (hyes (decide_eq_true q3))
                    have p3 : (y'.Start != off) = false := by simp [q3]
                    have p4 : decide ((m : Int) < 0) = false := decide_eq_false (by omega)
                    clear hno hyes q3
                    go_wp2_with (fail)
                    go_region_held3 (fun w' => w'.cell? ⟨g0, 0, none⟩ = some (.slice (some ⟨gi, oi, none⟩) 2 c0) ∧ w'.cell? ⟨g0, 1, none⟩ = some (.slice (some ⟨gb, ob, none⟩) 2 c1) ∧ w'.cell? ⟨g0, 2, none⟩ = some (.slice (some ⟨ge, oe, none⟩) es.length c2) ∧ w'.cell? ⟨ge, oe + k, none⟩ = some (.int .i64 e)) ((repeat' apply And.intro) <;> (first | ((repeat (first | assumption | with_reducible refine gro_keeps ?_ _ _ | with_reducible refine alloc_keeps ?_ _ | with_reducible refine drew_keeps ?_)); done) | (simp [go_sem]; done))) (first
                      | (go_at_call 82; (with_reducible refine (locate2_s (i := i) (j := j) (a := a) (b := b) (es := es) (e := e) (Ty.up _ m0 (by repeat (first | with_reducible exact Gro.refl _ | with_reducible exact Gro.refl_drew _ _ _ | with_reducible exact Gro.refl_drewN _ _ _ _ | assumption | with_reducible apply Gro.more | with_reducible apply Gro.alloc | with_reducible apply Gro.drew | with_reducible apply Gro.drewN))) (Ty.up _ m1 (by repeat (first | with_reducible exact Gro.refl _ | with_reducible exact Gro.refl_drew _ _ _ | with_reducible exact Gro.refl_drewN _ _ _ _ | assumption | with_reducible apply Gro.more | with_reducible apply Gro.alloc | with_reducible apply Gro.drew | with_reducible apply Gro.drewN))) hci hcj HA.out HB.out he64).mono ?_); rw [HL.out]; rintro e w1 ⟨rfl, os1, d1, rfl⟩))
                    go_wp2_with (go_at_call 83; (with_reducible refine (symAt_s (i := i) (Ty.up _ bi1 (by repeat (first | with_reducible exact Gro.refl _ | with_reducible exact Gro.refl_drew _ _ _ | with_reducible exact Gro.refl_drewN _ _ _ _ | assumption | with_reducible apply Gro.more | with_reducible apply Gro.alloc | with_reducible apply Gro.drew | with_reducible apply Gro.drewN))) ho64).mono ?_); rw [HN.out]; rintro e w2 ⟨rfl, os2, d2, rfl⟩)
                    go_roundw
                    case measure => (simp [intOf]; try omega)
                    case rel => exact ⟨k + 1, by go_num, by omega, HF, Lib.hid (by repeat (first | with_reducible exact Gro.refl _ | with_reducible exact Gro.refl_drew _ _ _ | with_reducible exact Gro.refl_drewN _ _ _ _ | assumption | with_reducible apply Gro.more | with_reducible apply Gro.alloc | with_reducible apply Gro.drew | with_reducible apply Gro.drewN))⟩
                  · have HF := Lib.hid (hno (decide_eq_false q3))
                    have p3 : (y'.Start != off) = true := by simp [q3]
                    have p4 : decide ((m : Int) < 0) = false := decide_eq_false (by omega)
                    clear hno hyes q3
                    go_wp2_with (fail)
                    go_region_held3 (fun w' => w'.cell? ⟨g0, 0, none⟩ = some (.slice (some ⟨gi, oi, none⟩) 2 c0) ∧ w'.cell? ⟨g0, 1, none⟩ = some (.slice (some ⟨gb, ob, none⟩) 2 c1) ∧ w'.cell? ⟨g0, 2, none⟩ = some (.slice (some ⟨ge, oe, none⟩) es.length c2) ∧ w'.cell? ⟨ge, oe + k, none⟩ = some (.int .i64 e)) ((repeat' apply And.intro) <;> (first | ((repeat (first | assumption | with_reducible refine gro_keeps ?_ _ _ | with_reducible refine alloc_keeps ?_ _ | with_reducible refine drew_keeps ?_)); done) | (simp [go_sem]; done))) (first
                      | (go_at_call 82; (with_reducible refine (locate2_s (i := i) (j := j) (a := a) (b := b) (es := es) (e := e) (Ty.up _ m0 (by repeat (first | with_reducible exact Gro.refl _ | with_reducible exact Gro.refl_drew _ _ _ | with_reducible exact Gro.refl_drewN _ _ _ _ | assumption | with_reducible apply Gro.more | with_reducible apply Gro.alloc | with_reducible apply Gro.drew | with_reducible apply Gro.drewN))) (Ty.up _ m1 (by repeat (first | with_reducible exact Gro.refl _ | with_reducible exact Gro.refl_drew _ _ _ | with_reducible exact Gro.refl_drewN _ _ _ _ | assumption | with_reducible apply Gro.more | with_reducible apply Gro.alloc | with_reducible apply Gro.drew | with_reducible apply Gro.drewN))) hci hcj HA.out HB.out he64).mono ?_); rw [HL.out]; rintro e w1 ⟨rfl, os1, d1, rfl⟩))
                    go_wp2_with (go_at_call 83; (with_reducible refine (symAt_s (i := i) (Ty.up _ bi1 (by repeat (first | with_reducible exact Gro.refl _ | with_reducible exact Gro.refl_drew _ _ _ | with_reducible exact Gro.refl_drewN _ _ _ _ | assumption | with_reducible apply Gro.more | with_reducible apply Gro.alloc | with_reducible apply Gro.drew | with_reducible apply Gro.drewN))) ho64).mono ?_); rw [HN.out]; rintro e w2 ⟨rfl, os2, d2, rfl⟩)
                    go_ret
                    exact ⟨ret_bool HF.out.symm, hGc.trans (by (repeat (first | with_reducible exact Gro.refl _ | with_reducible exact Gro.refl_drew _ _ _ | with_reducible exact Gro.refl_drewN _ _ _ _ | assumption | with_reducible apply Gro.more | with_reducible apply Gro.alloc | with_reducible apply Gro.drew | with_reducible apply Gro.drewN)); done)⟩
              · have HL := Lib.hid hloc
                obtain ⟨off, hoff⟩ : ∃ off, e - b = off := ⟨_, rfl⟩
                have ho64 : I64 off := ⟨by omega, by omega⟩
                have hsg := symGo_some j.Symbols off 0
                rcases hsg with hsg | ⟨m, y, hsg, hym, _⟩
                · have HF := Lib.hid (hno (by simp [entS, loc, hloc, hoff, hsg]; split <;> rfl))
                  have HN := Lib.hid hsg
                  rw [hoff] at HL
                  clear hno hyes hloc hsg hoff
                  go_wp2_with (fail)
                  go_region_held3 (fun w' => w'.cell? ⟨g0, 0, none⟩ = some (.slice (some ⟨gi, oi, none⟩) 2 c0) ∧ w'.cell? ⟨g0, 1, none⟩ = some (.slice (some ⟨gb, ob, none⟩) 2 c1) ∧ w'.cell? ⟨g0, 2, none⟩ = some (.slice (some ⟨ge, oe, none⟩) es.length c2) ∧ w'.cell? ⟨ge, oe + k, none⟩ = some (.int .i64 e)) ((repeat' apply And.intro) <;> (first | ((repeat (first | assumption | with_reducible refine gro_keeps ?_ _ _ | with_reducible refine alloc_keeps ?_ _ | with_reducible refine drew_keeps ?_)); done) | (simp [go_sem]; done))) (first
                    | (go_at_call 82; (with_reducible refine (locate2_s (i := i) (j := j) (a := a) (b := b) (es := es) (e := e) (Ty.up _ m0 (by repeat (first | with_reducible exact Gro.refl _ | with_reducible exact Gro.refl_drew _ _ _ | with_reducible exact Gro.refl_drewN _ _ _ _ | assumption | with_reducible apply Gro.more | with_reducible apply Gro.alloc | with_reducible apply Gro.drew | with_reducible apply Gro.drewN))) (Ty.up _ m1 (by repeat (first | with_reducible exact Gro.refl _ | with_reducible exact Gro.refl_drew _ _ _ | with_reducible exact Gro.refl_drewN _ _ _ _ | assumption | with_reducible apply Gro.more | with_reducible apply Gro.alloc | with_reducible apply Gro.drew | with_reducible apply Gro.drewN))) hci hcj HA.out HB.out he64).mono ?_); rw [HL.out]; rintro e w1 ⟨rfl, os1, d1, rfl⟩))
                  go_wp2_with (go_at_call 83; (with_reducible refine (symAt_s (i := j) (Ty.up _ bj1 (by repeat (first | with_reducible exact Gro.refl _ | with_reducible exact Gro.refl_drew _ _ _ | with_reducible exact Gro.refl_drewN _ _ _ _ | assumption | with_reducible apply Gro.more | with_reducible apply Gro.alloc | with_reducible apply Gro.drew | with_reducible apply Gro.drewN))) ho64).mono ?_); rw [HN.out]; rintro e w2 ⟨rfl, os2, d2, rfl⟩)
                  go_ret
                  exact ⟨ret_bool HF.out.symm, hGc.trans (by (repeat (first | with_reducible exact Gro.refl _ | with_reducible exact Gro.refl_drew _ _ _ | with_reducible exact Gro.refl_drewN _ _ _ _ | assumption | with_reducible apply Gro.more | with_reducible apply Gro.alloc | with_reducible apply Gro.drew | with_reducible apply Gro.drewN)); done)⟩
                · rw [Nat.zero_add] at hsg
                  have hml : m < j.Symbols.length := (List.getElem?_eq_some_iff.1 hym).1
                  obtain ⟨gs, osy, y', hAe, hgs, hyk, hy0, hy1, hy2, by0, by1, by2⟩ := atSymbol bj1 hml
                  subst hAe
                  obtain rfl : y' = y := by rw [hyk] at hym; exact Option.some.inj hym
                  have hval : entS ⟨[i, j], [a, b], es⟩ e = decide (y'.Start = off) := by simp [entS, loc, hloc, hoff, hsg, hyk]
                  rw [hval] at hno hyes
                  have HN := Lib.hid hsg
                  rw [hoff] at HL
                  have hmi : (m : Int) < (j.Symbols.length : Int) := by omega
                  have v1 := cell_up hYw hy1
                  have hgsw : gs < wc.heap.size := Nat.lt_of_lt_of_le hgs hYw.size
                  have hgsY := hgs
                  clear hloc hsg hoff hyk hym hval
                  by_cases q3 : y'.Start = off
                  · have HF := Lib.hid (hyes (decide_eq_true q3))
                    have p3 : (y'.Start != off) = false := by simp [q3]
                    have p4 : decide ((m : Int) < 0) = false := decide_eq_false (by omega)
                    clear hno hyes q3
                    go_wp2_with (fail)
                    go_region_held3 (fun w' => w'.cell? ⟨g0, 0, none⟩ = some (.slice (some ⟨gi, oi, none⟩) 2 c0) ∧ w'.cell? ⟨g0, 1, none⟩ = some (.slice (some ⟨gb, ob, none⟩) 2 c1) ∧ w'.cell? ⟨g0, 2, none⟩ = some (.slice (some ⟨ge, oe, none⟩) es.length c2) ∧ w'.cell? ⟨ge, oe + k, none⟩ = some (.int .i64 e)) ((repeat' apply And.intro) <;> (first | ((repeat (first | assumption | with_reducible refine gro_keeps ?_ _ _ | with_reducible refine alloc_keeps ?_ _ | with_reducible refine drew_keeps ?_)); done) | (simp [go_sem]; done))) (first
                      | (go_at_call 82; (with_reducible refine (locate2_s (i := i) (j := j) (a := a) (b := b) (es := es) (e := e) (Ty.up _ m0 (by repeat (first | with_reducible exact Gro.refl _ | with_reducible exact Gro.refl_drew _ _ _ | with_reducible exact Gro.refl_drewN _ _ _ _ | assumption | with_reducible apply Gro.more | with_reducible apply Gro.alloc | with_reducible apply Gro.drew | with_reducible apply Gro.drewN))) (Ty.up _ m1 (by repeat (first | with_reducible exact Gro.refl _ | with_reducible exact Gro.refl_drew _ _ _ | with_reducible exact Gro.refl_drewN _ _ _ _ | assumption | with_reducible apply Gro.more | with_reducible apply Gro.alloc | with_reducible apply Gro.drew | with_reducible apply Gro.drewN))) hci hcj HA.out HB.out he64).mono ?_); rw [HL.out]; rintro e w1 ⟨rfl, os1, d1, rfl⟩))
                    go_wp2_with (go_at_call 83; (with_reducible refine (symAt_s (i := j) (Ty.up _ bj1 (by repeat (first | with_reducible exact Gro.refl _ | with_reducible exact Gro.refl_drew _ _ _ | with_reducible exact Gro.refl_drewN _ _ _ _ | assumption | with_reducible apply Gro.more | with_reducible apply Gro.alloc | with_reducible apply Gro.drew | with_reducible apply Gro.drewN))) ho64).mono ?_); rw [HN.out]; rintro e w2 ⟨rfl, os2, d2, rfl⟩)
                    go_roundw
                    case measure => (simp [intOf]; try omega)
                    case rel => exact ⟨k + 1, by go_num, by omega, HF, Lib.hid (by repeat (first | with_reducible exact Gro.refl _ | with_reducible exact Gro.refl_drew _ _ _ | with_reducible exact Gro.refl_drewN _ _ _ _ | assumption | with_reducible apply Gro.more | with_reducible apply Gro.alloc | with_reducible apply Gro.drew | with_reducible apply Gro.drewN))⟩
                  · have HF := Lib.hid (hno (decide_eq_false q3))
                    have p3 : (y'.Start != off) = true := by simp [q3]
                    have p4 : decide ((m : Int) < 0) = false := decide_eq_false (by omega)
                    clear hno hyes q3
                    go_wp2_with (fail)
                    go_region_held3 (fun w' => w'.cell? ⟨g0, 0, none⟩ = some (.slice (some ⟨gi, oi, none⟩) 2 c0) ∧ w'.cell? ⟨g0, 1, none⟩ = some (.slice (some ⟨gb, ob, none⟩) 2 c1) ∧ w'.cell? ⟨g0, 2, none⟩ = some (.slice (some ⟨ge, oe, none⟩) es.length c2) ∧ w'.cell? ⟨ge, oe + k, none⟩ = some (.int .i64 e)) ((repeat' apply And.intro) <;> (first | ((repeat (first | assumption | with_reducible refine gro_keeps ?_ _ _ | with_reducible refine alloc_keeps ?_ _ | with_reducible refine drew_keeps ?_)); done) | (simp [go_sem]; done))) (first
                      | (go_at_call 82; (with_reducible refine (locate2_s (i := i) (j := j) (a := a) (b := b) (es := es) (e := e) (Ty.up _ m0 (by repeat (first | with_reducible exact Gro.refl _ | with_reducible exact Gro.refl_drew _ _ _ | with_reducible exact Gro.refl_drewN _ _ _ _ | assumption | with_reducible apply Gro.more | with_reducible apply Gro.alloc | with_reducible apply Gro.drew | with_reducible apply Gro.drewN))) (Ty.up _ m1 (by repeat (first | with_reducible exact Gro.refl _ | with_reducible exact Gro.refl_drew _ _ _ | with_reducible exact Gro.refl_drewN _ _ _ _ | assumption | with_reducible apply Gro.more | with_reducible apply Gro.alloc | with_reducible apply Gro.drew | with_reducible apply Gro.drewN))) hci hcj HA.out HB.out he64).mono ?_); rw [HL.out]; rintro e w1 ⟨rfl, os1, d1, rfl⟩))
                    go_wp2_with (go_at_call 83; (with_reducible refine (symAt_s (i := j) (Ty.up _ bj1 (by repeat (first | with_reducible exact Gro.refl _ | with_reducible exact Gro.refl_drew _ _ _ | with_reducible exact Gro.refl_drewN _ _ _ _ | assumption | with_reducible apply Gro.more | with_reducible apply Gro.alloc | with_reducible apply Gro.drew | with_reducible apply Gro.drewN))) ho64).mono ?_); rw [HN.out]; rintro e w2 ⟨rfl, os2, d2, rfl⟩)
                    go_ret
                    exact ⟨ret_bool HF.out.symm, hGc.trans (by (repeat (first | with_reducible exact Gro.refl _ | with_reducible exact Gro.refl_drew _ _ _ | with_reducible exact Gro.refl_drewN _ _ _ _ | assumption | with_reducible apply Gro.more | with_reducible apply Gro.alloc | with_reducible apply Gro.drew | with_reducible apply Gro.drewN)); done)⟩
              · have HL := Lib.hid hloc
                have HF := Lib.hid (hno (by simp [entS, loc, hloc]))
                clear hno hyes hloc
                go_wp2_with (fail)
                go_region_held3 (fun w' => w'.cell? ⟨g0, 0, none⟩ = some (.slice (some ⟨gi, oi, none⟩) 2 c0) ∧ w'.cell? ⟨g0, 1, none⟩ = some (.slice (some ⟨gb, ob, none⟩) 2 c1) ∧ w'.cell? ⟨g0, 2, none⟩ = some (.slice (some ⟨ge, oe, none⟩) es.length c2) ∧ w'.cell? ⟨ge, oe + k, none⟩ = some (.int .i64 e)) ((repeat' apply And.intro) <;> (first | ((repeat (first | assumption | with_reducible refine gro_keeps ?_ _ _ | with_reducible refine alloc_keeps ?_ _ | with_reducible refine drew_keeps ?_)); done) | (simp [go_sem]; done))) (first
                  | (go_at_call 82; (with_reducible refine (locate2_s (i := i) (j := j) (a := a) (b := b) (es := es) (e := e) (Ty.up _ m0 (by repeat (first | with_reducible exact Gro.refl _ | with_reducible exact Gro.refl_drew _ _ _ | with_reducible exact Gro.refl_drewN _ _ _ _ | assumption | with_reducible apply Gro.more | with_reducible apply Gro.alloc | with_reducible apply Gro.drew | with_reducible apply Gro.drewN))) (Ty.up _ m1 (by repeat (first | with_reducible exact Gro.refl _ | with_reducible exact Gro.refl_drew _ _ _ | with_reducible exact Gro.refl_drewN _ _ _ _ | assumption | with_reducible apply Gro.more | with_reducible apply Gro.alloc | with_reducible apply Gro.drew | with_reducible apply Gro.drewN))) hci hcj HA.out HB.out he64).mono ?_); rw [HL.out]; rintro e w1 ⟨rfl, os1, d1, rfl⟩))
                go_wp2_with (fail)
                go_ret
                exact ⟨ret_bool HF.out.symm, hGc.trans (by (repeat (first | with_reducible exact Gro.refl _ | with_reducible exact Gro.refl_drew _ _ _ | with_reducible exact Gro.refl_drewN _ _ _ _ | assumption | with_reducible apply Gro.more | with_reducible apply Gro.alloc | with_reducible apply Gro.drew | with_reducible apply Gro.drewN)); done)⟩
            · obtain rfl : k = es.length := by omega
              have z2' := gro_keeps z2 os d
              have HF := Lib.hid (show spaceOk ⟨[i, j], [a, b], es⟩ = true from by rw [HQ.out, ← hE.out, List.drop_length]; rfl)
              clear hE
              go_wp2_with (fail)
              go_ret
              exact ⟨ret_bool HF.out.symm, hGc.trans (by (repeat (first | with_reducible exact Gro.refl _ | with_reducible exact Gro.refl_drew _ _ _ | with_reducible exact Gro.refl_drewN _ _ _ _ | assumption | with_reducible apply Gro.more | with_reducible apply Gro.alloc | with_reducible apply Gro.drew | with_reducible apply Gro.drewN)); done)⟩
end Go.Proofs.Ytbhobjepjaeffaa
namespace Go.Proofs.Ytbhobjepjaeffaa
open Go.RowKit
def RetMachine (x : DMachine) (w : World) (r : Ending) (w' : World) : Prop := ∃ A0 c0 A1 c1, r = .returned (.agg #[.int .i64 x.Pc, .int .i64 x.Sp, .int .i64 x.Fp, .slice A0 x.Stack.length c0, .slice A1 x.Out.length c1, .int .i64 x.State, .int .i64 x.Value]) ∧ Fresh tMachine w w' [.int .i64 x.Pc, .int .i64 x.Sp, .int .i64 x.Fp, .slice A0 x.Stack.length c0, .slice A1 x.Out.length c1, .int .i64 x.State, .int .i64 x.Value] x ∧ Gro w w'
theorem tMachine_mkOd {w : World} {x : DMachine} {A0 : Option Addr} {c0 : Nat} {A1 : Option Addr} {c1 : Nat} {S3 : List Nat} {S4 : List Nat} (h0 : I64 x.Pc) (h1 : I64 x.Sp) (h2 : I64 x.Fp) (h3 : (intT.sl 3).O w [.slice A0 x.Stack.length c0] x.Stack S3) (h4 : (intT.sl 3).O w [.slice A1 x.Out.length c1] x.Out S4) (h5 : I64 x.State) (h6 : I64 x.Value) : tMachine.O w [.int .i64 x.Pc, .int .i64 x.Sp, .int .i64 x.Fp, .slice A0 x.Stack.length c0, .slice A1 x.Out.length c1, .int .i64 x.State, .int .i64 x.Value] x (S3 ++ S4) := by
  have h : tMachine.O w [.int .i64 x.Pc, .int .i64 x.Sp, .int .i64 x.Fp, .slice A0 x.Stack.length c0, .slice A1 x.Out.length c1, .int .i64 x.State, .int .i64 x.Value] x ([] ++ ([] ++ ([] ++ (S3 ++ (S4 ++ ([] ++ [])))))) := ⟨[.int .i64 x.Pc], [.int .i64 x.Sp, .int .i64 x.Fp, .slice A0 x.Stack.length c0, .slice A1 x.Out.length c1, .int .i64 x.State, .int .i64 x.Value], [], ([] ++ ([] ++ (S3 ++ (S4 ++ ([] ++ []))))), rfl, rfl, ⟨rfl, h0.1, h0.2, rfl⟩, ⟨[.int .i64 x.Sp], [.int .i64 x.Fp, .slice A0 x.Stack.length c0, .slice A1 x.Out.length c1, .int .i64 x.State, .int .i64 x.Value], [], ([] ++ (S3 ++ (S4 ++ ([] ++ [])))), rfl, rfl, ⟨rfl, h1.1, h1.2, rfl⟩, ⟨[.int .i64 x.Fp], [.slice A0 x.Stack.length c0, .slice A1 x.Out.length c1, .int .i64 x.State, .int .i64 x.Value], [], (S3 ++ (S4 ++ ([] ++ []))), rfl, rfl, ⟨rfl, h2.1, h2.2, rfl⟩, ⟨[.slice A0 x.Stack.length c0], [.slice A1 x.Out.length c1, .int .i64 x.State, .int .i64 x.Value], S3, (S4 ++ ([] ++ [])), rfl, rfl, h3, ⟨[.slice A1 x.Out.length c1], [.int .i64 x.State, .int .i64 x.Value], S4, ([] ++ []), rfl, rfl, h4, ⟨[.int .i64 x.State], [.int .i64 x.Value], [], [], rfl, rfl, ⟨rfl, h5.1, h5.2, rfl⟩, ⟨rfl, h6.1, h6.2, rfl⟩⟩⟩⟩⟩⟩⟩
  simpa using h
theorem tMachine_fresh {w W : World} {x : DMachine} {A0 : Option Addr} {c0 : Nat} {A1 : Option Addr} {c1 : Nat} {u3 u4 : World} {m3 m4 : Nat} (h0 : I64 x.Pc) (h1 : I64 x.Sp) (h2 : I64 x.Fp) (h3 : Fre (intT.sl 3) u3 m3 W [.slice A0 x.Stack.length c0] x.Stack) (h4 : Fre (intT.sl 3) u4 m4 W [.slice A1 x.Out.length c1] x.Out) (h5 : I64 x.State) (h6 : I64 x.Value) (hw3 : w.heap.size ≤ u3.heap.size) (hw4 : w.heap.size ≤ u4.heap.size) (hd3_4 : m3 ≤ u4.heap.size ∨ m4 ≤ u3.heap.size) : Fresh tMachine w W [.int .i64 x.Pc, .int .i64 x.Sp, .int .i64 x.Fp, .slice A0 x.Stack.length c0, .slice A1 x.Out.length c1, .int .i64 x.State, .int .i64 x.Value] x := by
  obtain ⟨S3, hO3, hN3, hI3⟩ := h3
  obtain ⟨S4, hO4, hN4, hI4⟩ := h4
  exact ⟨_, tMachine_mkOd h0 h1 h2 hO3 hO4 h5 h6, List.nodup_append.2 ⟨hN3, hN4, fun a ha b hb => (by have h1 := hI3 a ha; have h2 := hI4 b hb; omega)⟩, fun b hb => (List.mem_append.1 hb).elim (fun hb => (by have := hI3 b hb; omega)) (fun hb => (by have := hI4 b hb; omega))⟩
theorem eq_DMachine {x y : DMachine} : x = y ↔ x.Pc = y.Pc ∧ x.Sp = y.Sp ∧ x.Fp = y.Fp ∧ x.Stack = y.Stack ∧ x.Out = y.Out ∧ x.State = y.State ∧ x.Value = y.Value := by
  cases x
  cases y
  simp
def szMachine (x : DMachine) : Nat := x.Stack.length + x.Out.length
set_option maxRecDepth 100000 in
theorem toMachine_l {x : DMachine} {w : World} {A0 : Option Addr} {c0 : Nat} {A1 : Option Addr} {c1 : Nat} (h0 : I64 x.Pc) (h1 : I64 x.Sp) (h2 : I64 x.Fp) (h3 : (intT.sl 3).R w w.heap.size [.slice A0 x.Stack.length c0] x.Stack) (h4 : (intT.sl 3).R w w.heap.size [.slice A1 x.Out.length c1] x.Out) (h5 : I64 x.State) (h6 : I64 x.Value) (hn : szMachine x ≤ 1099511627776) : Calls Try.prog 84 #[.agg #[.int .i64 x.Pc, .int .i64 x.Sp, .int .i64 x.Fp, .slice A0 x.Stack.length c0, .slice A1 x.Out.length c1, .int .i64 x.State, .int .i64 x.Value]] w (RetMachine x w) := by
  unfold szMachine at hn
  go_enter Try.func84, Try.ntmps84
  go_wp2_with (first
      | (go_at_call 56; (with_reducible refine (toIntS_l (xs := x.Stack) (Ty.up _ h3 (by repeat (first | with_reducible exact Gro.refl _ | with_reducible exact Gro.refl_drew _ _ _ | with_reducible exact Gro.refl_drewN _ _ _ _ | assumption | with_reducible apply Gro.more | with_reducible apply Gro.alloc | with_reducible apply Gro.drew | with_reducible apply Gro.drewN))) (by omega)).mono ?_); rintro e w3 ⟨B0, d0, rfl, hF3, os3, dd3, rfl⟩)
      | (go_at_call 56; (with_reducible refine (toIntS_l (xs := x.Out) (Ty.up _ h4 (by repeat (first | with_reducible exact Gro.refl _ | with_reducible exact Gro.refl_drew _ _ _ | with_reducible exact Gro.refl_drewN _ _ _ _ | assumption | with_reducible apply Gro.more | with_reducible apply Gro.alloc | with_reducible apply Gro.drew | with_reducible apply Gro.drewN))) (by omega)).mono ?_); rintro e w4 ⟨B1, d1, rfl, hF4, os4, dd4, rfl⟩))
  refine bodyPost_ret (v := .agg #[.int .i64 x.Pc, .int .i64 x.Sp, .int .i64 x.Fp, .slice B0 x.Stack.length d0, .slice B1 x.Out.length d1, .int .i64 x.State, .int .i64 x.Value]) (by simp [results, Try.results84, go_sem]) rfl ⟨B0, d0, B1, d1, rfl, ?_, (by repeat (first | with_reducible exact Gro.refl _ | with_reducible exact Gro.refl_drew _ _ _ | with_reducible exact Gro.refl_drewN _ _ _ _ | assumption | with_reducible apply Gro.more | with_reducible apply Gro.alloc | with_reducible apply Gro.drew | with_reducible apply Gro.drewN))⟩
  obtain ⟨S3, hO3, hN3, hL3⟩ := hF3
  obtain ⟨S4, hO4, hN4, hL4⟩ := hF4
  have hU3 := Ty.ltO _ hO3
  have hL3' := hL3
  have hU4 := Ty.ltO _ hO4
  have hL4' := hL4
  simp at hL3' hU3 hL4' hU4
  exact ⟨_, tMachine_mkOd h0 h1 h2 (Ty.same _ hO3 hL3 (by repeat (first | with_reducible exact Same.refl _ _ _ | ((with_reducible refine Same.base ?_ ?_) <;> (simp <;> omega)) | ((with_reducible refine Same.more ?_ ?_ _ _); rotate_left; simp <;> omega) | ((with_reducible refine Same.alloc ?_ ?_ _); rotate_left; simp <;> omega) | with_reducible apply Same.drew | with_reducible apply Same.drewN))) (Ty.same _ hO4 hL4 (by repeat (first | with_reducible exact Same.refl _ _ _ | ((with_reducible refine Same.base ?_ ?_) <;> (simp <;> omega)) | ((with_reducible refine Same.more ?_ ?_ _ _); rotate_left; simp <;> omega) | ((with_reducible refine Same.alloc ?_ ?_ _); rotate_left; simp <;> omega) | with_reducible apply Same.drew | with_reducible apply Same.drewN))) h5 h6, List.nodup_append.2 ⟨hN3, hN4, fun a ha b hb => (by have h1 := hU3 a ha; have h2 := hL4' b hb; omega)⟩, fun b hb => (List.mem_append.1 hb).elim (fun hb => (by have := hL3' b hb; omega)) (fun hb => (by have := hL4' b hb; omega))⟩
set_option maxRecDepth 100000 in
theorem szMachine_l {x : DMachine} {w : World} {left : Int} {A0 : Option Addr} {c0 : Nat} {A1 : Option Addr} {c1 : Nat} (h3 : (intT.sl 3).R w w.heap.size [.slice A0 x.Stack.length c0] x.Stack) (h4 : (intT.sl 3).R w w.heap.size [.slice A1 x.Out.length c1] x.Out) (h00 : 0 ≤ left) (h01 : left ≤ 1099511627776) : Calls Try.prog 80 #[.agg #[.int .i64 x.Pc, .int .i64 x.Sp, .int .i64 x.Fp, .slice A0 x.Stack.length c0, .slice A1 x.Out.length c1, .int .i64 x.State, .int .i64 x.Value], .int .i64 left] w fun e w' => e = .returned (.int .i64 (szRes left (szMachine x))) ∧ Gro w w' := by
  have HS := Lib.hid (show szMachine x = x.Stack.length + x.Out.length from by unfold szMachine; rfl)
  by_cases c0' : (x.Stack.length : Int) ≤ left
  · skip
    by_cases c1' : (x.Stack.length : Int) + (x.Out.length : Int) ≤ left
    · skip
      have e0 : szRes (left) x.Stack.length = left - (x.Stack.length : Nat) := if_pos (by omega)
      have e1 : szRes (left - (x.Stack.length : Nat)) x.Out.length = left - (x.Stack.length : Nat) - (x.Out.length : Nat) := if_pos (by omega)
      go_enter Try.func80, Try.ntmps80
      go_wp2_with (first
      | (go_at_call 52; (with_reducible refine (szIntS_l (xs := x.Stack) (Ty.up _ h3 (by repeat (first | with_reducible exact Gro.refl _ | with_reducible exact Gro.refl_drew _ _ _ | with_reducible exact Gro.refl_drewN _ _ _ _ | assumption | with_reducible apply Gro.more | with_reducible apply Gro.alloc | with_reducible apply Gro.drew | with_reducible apply Gro.drewN))) (by omega) (by omega)).mono ?_); rintro e w0 ⟨rfl, os0, d0, rfl⟩)
      | (go_at_call 52; (with_reducible refine (szIntS_l (xs := x.Out) (Ty.up _ h4 (by repeat (first | with_reducible exact Gro.refl _ | with_reducible exact Gro.refl_drew _ _ _ | with_reducible exact Gro.refl_drewN _ _ _ _ | assumption | with_reducible apply Gro.more | with_reducible apply Gro.alloc | with_reducible apply Gro.drew | with_reducible apply Gro.drewN))) (by omega) (by omega)).mono ?_); rintro e w1 ⟨rfl, os1, d1, rfl⟩))
      go_ret
      exact ⟨ret_int (by rw [HS.out]; unfold szRes; rw [if_pos (by omega)] <;> omega), (by repeat (first | with_reducible exact Gro.refl _ | with_reducible exact Gro.refl_drew _ _ _ | with_reducible exact Gro.refl_drewN _ _ _ _ | assumption | with_reducible apply Gro.more | with_reducible apply Gro.alloc | with_reducible apply Gro.drew | with_reducible apply Gro.drewN))⟩
    · have e0 : szRes (left) x.Stack.length = left - (x.Stack.length : Nat) := if_pos (by omega)
      have e1 : szRes (left - (x.Stack.length : Nat)) x.Out.length = -1 := if_neg (by omega)
      go_enter Try.func80, Try.ntmps80
      go_wp2_with (first
      | (go_at_call 52; (with_reducible refine (szIntS_l (xs := x.Stack) (Ty.up _ h3 (by repeat (first | with_reducible exact Gro.refl _ | with_reducible exact Gro.refl_drew _ _ _ | with_reducible exact Gro.refl_drewN _ _ _ _ | assumption | with_reducible apply Gro.more | with_reducible apply Gro.alloc | with_reducible apply Gro.drew | with_reducible apply Gro.drewN))) (by omega) (by omega)).mono ?_); rintro e w0 ⟨rfl, os0, d0, rfl⟩)
      | (go_at_call 52; (with_reducible refine (szIntS_l (xs := x.Out) (Ty.up _ h4 (by repeat (first | with_reducible exact Gro.refl _ | with_reducible exact Gro.refl_drew _ _ _ | with_reducible exact Gro.refl_drewN _ _ _ _ | assumption | with_reducible apply Gro.more | with_reducible apply Gro.alloc | with_reducible apply Gro.drew | with_reducible apply Gro.drewN))) (by omega) (by omega)).mono ?_); rintro e w1 ⟨rfl, os1, d1, rfl⟩))
      go_ret
      exact ⟨ret_int (by rw [HS.out]; unfold szRes; rw [if_neg (by omega)]), (by repeat (first | with_reducible exact Gro.refl _ | with_reducible exact Gro.refl_drew _ _ _ | with_reducible exact Gro.refl_drewN _ _ _ _ | assumption | with_reducible apply Gro.more | with_reducible apply Gro.alloc | with_reducible apply Gro.drew | with_reducible apply Gro.drewN))⟩
  · have e0 : szRes (left) x.Stack.length = -1 := if_neg (by omega)
    go_enter Try.func80, Try.ntmps80
    go_wp2_with (first
      | (go_at_call 52; (with_reducible refine (szIntS_l (xs := x.Stack) (Ty.up _ h3 (by repeat (first | with_reducible exact Gro.refl _ | with_reducible exact Gro.refl_drew _ _ _ | with_reducible exact Gro.refl_drewN _ _ _ _ | assumption | with_reducible apply Gro.more | with_reducible apply Gro.alloc | with_reducible apply Gro.drew | with_reducible apply Gro.drewN))) (by omega) (by omega)).mono ?_); rintro e w0 ⟨rfl, os0, d0, rfl⟩))
    go_ret
    exact ⟨ret_int (by rw [HS.out]; unfold szRes; rw [if_neg (by omega)]), (by repeat (first | with_reducible exact Gro.refl _ | with_reducible exact Gro.refl_drew _ _ _ | with_reducible exact Gro.refl_drewN _ _ _ _ | assumption | with_reducible apply Gro.more | with_reducible apply Gro.alloc | with_reducible apply Gro.drew | with_reducible apply Gro.drewN))⟩
set_option maxRecDepth 100000 in
theorem eqMachine_l {x y : DMachine} {w : World} {A0 : Option Addr} {c0 : Nat} {A1 : Option Addr} {c1 : Nat} {B0 : Option Addr} {d0 : Nat} {B1 : Option Addr} {d1 : Nat} (h3 : (intT.sl 3).R w w.heap.size [.slice A0 x.Stack.length c0] x.Stack) (h4 : (intT.sl 3).R w w.heap.size [.slice A1 x.Out.length c1] x.Out) (k3 : (intT.sl 3).R w w.heap.size [.slice B0 y.Stack.length d0] y.Stack) (k4 : (intT.sl 3).R w w.heap.size [.slice B1 y.Out.length d1] y.Out) : Calls Try.prog 87 #[.agg #[.int .i64 x.Pc, .int .i64 x.Sp, .int .i64 x.Fp, .slice A0 x.Stack.length c0, .slice A1 x.Out.length c1, .int .i64 x.State, .int .i64 x.Value], .agg #[.int .i64 y.Pc, .int .i64 y.Sp, .int .i64 y.Fp, .slice B0 y.Stack.length d0, .slice B1 y.Out.length d1, .int .i64 y.State, .int .i64 y.Value]] w fun e w' => e = .returned (.bool (decide (x = y))) ∧ Gro w w' := by
  go_enter Try.func87, Try.ntmps87
  go_wp2_with (first
      | (go_at_call 39; (with_reducible refine (eqIntS_l (xs := x.Stack) (ys := y.Stack) (Ty.up _ h3 (by repeat (first | with_reducible exact Gro.refl _ | with_reducible exact Gro.refl_drew _ _ _ | with_reducible exact Gro.refl_drewN _ _ _ _ | assumption | with_reducible apply Gro.more | with_reducible apply Gro.alloc | with_reducible apply Gro.drew | with_reducible apply Gro.drewN))) (Ty.up _ k3 (by repeat (first | with_reducible exact Gro.refl _ | with_reducible exact Gro.refl_drew _ _ _ | with_reducible exact Gro.refl_drewN _ _ _ _ | assumption | with_reducible apply Gro.more | with_reducible apply Gro.alloc | with_reducible apply Gro.drew | with_reducible apply Gro.drewN)))).mono ?_); rintro e w3 ⟨rfl, os3, d3, rfl⟩)
      | (go_at_call 39; (with_reducible refine (eqIntS_l (xs := x.Out) (ys := y.Out) (Ty.up _ h4 (by repeat (first | with_reducible exact Gro.refl _ | with_reducible exact Gro.refl_drew _ _ _ | with_reducible exact Gro.refl_drewN _ _ _ _ | assumption | with_reducible apply Gro.more | with_reducible apply Gro.alloc | with_reducible apply Gro.drew | with_reducible apply Gro.drewN))) (Ty.up _ k4 (by repeat (first | with_reducible exact Gro.refl _ | with_reducible exact Gro.refl_drew _ _ _ | with_reducible exact Gro.refl_drewN _ _ _ _ | assumption | with_reducible apply Gro.more | with_reducible apply Gro.alloc | with_reducible apply Gro.drew | with_reducible apply Gro.drewN)))).mono ?_); rintro e w4 ⟨rfl, os4, d4, rfl⟩))
  all_goals
    go_ret
    refine ⟨ret_bool ?_, (by repeat (first | with_reducible exact Gro.refl _ | with_reducible exact Gro.refl_drew _ _ _ | with_reducible exact Gro.refl_drewN _ _ _ _ | assumption | with_reducible apply Gro.more | with_reducible apply Gro.alloc | with_reducible apply Gro.drew | with_reducible apply Gro.drewN))⟩
    simp_all [eq_DMachine]
end Go.Proofs.Ytbhobjepjaeffaa
