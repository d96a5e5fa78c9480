/-
  LISTS OF STRUCTS THAT HOLD SLICES, written by a program (gennest.py): Profile: the laws' own toXS, szXS, eqXS, markXS.
-/
import Derived.Test.YtfpacmfhpkcipaaGreatDoorNest
import Derived.Test.YtfpacmfhpkcipaaGreatDoorFnProfile
import Derived.Deep.RegionHeld3
set_option linter.unusedVariables false
set_option linter.unusedSimpArgs false
namespace Go.Proofs.YtfpacmfhpkcipaaGreatDoor
open Go.RowKit
theorem atProfile {e : TypeId} {w : World} {B : Nat} {A : Option Addr} {n c : Nat} {xs : List DProfile} (h : (tProfile.sl e).R w B [.slice A n c] xs) {k : Nat} (hk : k < xs.length) :
    ∃ g off x A0 c0 A1 c1, A = some ⟨g, off, none⟩ ∧ g < B ∧ xs[k]? = some x ∧ w.cell? ⟨g, off + k * 2, none⟩ = some (.slice A0 x.Stacks.Nodes.length c0) ∧ w.cell? ⟨g, off + k * 2 + 1, none⟩ = some (.slice A1 x.Counts.length c1) ∧ (tNode.sl 101).R w B [.slice A0 x.Stacks.Nodes.length c0] x.Stacks.Nodes ∧ (intT.sl 3).R w B [.slice A1 x.Counts.length c1] x.Counts := by
  obtain ⟨g, off, x, ec, h1, hB, h2, h3, h4⟩ := elem_at h hk
  obtain ⟨A0, c0, A1, c1, rfl, hf⟩ := tProfile_R h3
  exact ⟨g, off, x, A0, c0, A1, c1, h1, hB, h2, h4 0 _ rfl, h4 1 _ rfl, hf⟩
def mkProfileS (xs : List DProfile) (k : Int) : List DProfile := mkL mkProfile cntProfile xs k
def cntProfileS (xs : List DProfile) : Nat := cntL cntProfile xs
theorem mkProfileS_length (xs : List DProfile) (k : Int) : (mkProfileS xs k).length = xs.length := mkL_length _ _
theorem toProfileS_info : (Tryz.prog.info? 33).map (fun i => (i.zero, i.size, i.bytes)) = some (some (.agg #[.slice none 0 0, .slice none 0 0]), 2, 48) := by kernel_rfl
theorem elProfile : Elem Tryz.prog 47 33 tProfile 48 := by
  obtain ⟨i0, hi, hz0, hz1, hz2⟩ := info_parts toProfileS_info
  exact ⟨Tryz.underlying47, ⟨i0, _, hi, hz0, hz1, hz2, rfl⟩, by decide⟩
set_option maxRecDepth 100000 in
theorem szProfileS_l {xs : List DProfile} {w : World} {v : Value} {left : Int} (hx : (tProfile.sl 33).R w w.heap.size [v] xs) (h0 : 0 ≤ left) (h1 : left ≤ 1099511627776) :
    Calls Tryz.prog 22 #[v, .int .i64 left] w fun e w' => e = .returned (.int .i64 (szRes left (szL szProfile xs))) ∧ Gro w w' := by
  obtain ⟨A, c, rfl, h2, h3⟩ := sl_at hx
  by_cases h : (xs.length : Int) ≤ left
  · go_enter Tryz.func22, Tryz.ntmps22
    go_wp2_with (fail)
    go_loopw [1, 5] (fun a i wr => ∃ (j s : Nat), j ≤ xs.length ∧ Hid (s = ((xs.take j).map szProfile).sum) ∧ (xs.length : Int) + s ≤ left ∧ a = .int .i64 (left - xs.length - s) ∧ i = .int .i64 j ∧ Hid (Gro w wr)) (fun _ i _ => xs.length - (intOf i).toNat)
    case atStart => exact ⟨0, 0, Nat.zero_le _, rfl, by omega, by simp, rfl, Gro.refl _⟩
    case round =>
      obtain ⟨j, s, hj, hs, hle, rfl, rfl, hG⟩ := hrel
      obtain ⟨os, d, rfl⟩ := hG.out
      clear hG
      by_cases hlt : j < xs.length
      · obtain ⟨g, off, x, A0, c0, A1, c1, rfl, hgb, hxk, hx0, hx1, bx0, bx1⟩ := atProfile hx hlt
        have HX := Lib.hid (szSnoc szProfile hxk)
        have HM := Lib.hid (szLe szProfile xs (j + 1))
        obtain ⟨n0, hn0⟩ : ∃ n, szProfile x = n := ⟨_, rfl⟩
        have HN := Lib.hid hn0
        clear hxk hx hn0
        by_cases hsz : (xs.length : Int) + s + n0 ≤ left
        · have HR := Lib.hid (show szRes (left - xs.length - s) n0 = left - xs.length - s - n0 from if_pos (by omega))
          go_wp2_with (go_at_call 11; refine (szProfile_l (x := x) (Ty.up _ bx0 (by repeat (first | with_reducible exact Gro.refl _ | with_reducible exact Gro.refl_drew _ _ _ | with_reducible exact Gro.refl_drewN _ _ _ _ | assumption | with_reducible apply Gro.more | with_reducible apply Gro.alloc | with_reducible apply Gro.drew | with_reducible apply Gro.drewN))) (Ty.up _ bx1 (by repeat (first | with_reducible exact Gro.refl _ | with_reducible exact Gro.refl_drew _ _ _ | with_reducible exact Gro.refl_drewN _ _ _ _ | assumption | with_reducible apply Gro.more | with_reducible apply Gro.alloc | with_reducible apply Gro.drew | with_reducible apply Gro.drewN))) (by omega) (by omega)).mono ?_; rw [HN.out, HR.out]; rintro e w1 ⟨rfl, os1, d1, rfl⟩)
          go_roundw
          case rel => exact ⟨j + 1, s + n0, by omega, Lib.hid (by rw [hs.out, HX.out, HN.out]), by omega, by go_num, by go_num, Lib.hid (by repeat (first | with_reducible exact Gro.refl _ | with_reducible exact Gro.refl_drew _ _ _ | with_reducible exact Gro.refl_drewN _ _ _ _ | assumption | with_reducible apply Gro.more | with_reducible apply Gro.alloc | with_reducible apply Gro.drew | with_reducible apply Gro.drewN))⟩
          case measure => simp [intOf]; omega
        · have HR := Lib.hid (show szRes (left - xs.length - s) n0 = -1 from if_neg (by omega))
          have HQ := Lib.hid (show szRes left (szL szProfile xs) = -1 from if_neg (by have h1 := HX.out; have h2 := HM.out; have h3 := hs.out; have h4 := HN.out; unfold szL; omega))
          go_wp2_with (go_at_call 11; refine (szProfile_l (x := x) (Ty.up _ bx0 (by repeat (first | with_reducible exact Gro.refl _ | with_reducible exact Gro.refl_drew _ _ _ | with_reducible exact Gro.refl_drewN _ _ _ _ | assumption | with_reducible apply Gro.more | with_reducible apply Gro.alloc | with_reducible apply Gro.drew | with_reducible apply Gro.drewN))) (Ty.up _ bx1 (by repeat (first | with_reducible exact Gro.refl _ | with_reducible exact Gro.refl_drew _ _ _ | with_reducible exact Gro.refl_drewN _ _ _ _ | assumption | with_reducible apply Gro.more | with_reducible apply Gro.alloc | with_reducible apply Gro.drew | with_reducible apply Gro.drewN))) (by omega) (by omega)).mono ?_; rw [HN.out, HR.out]; rintro e w1 ⟨rfl, os1, d1, rfl⟩)
          go_ret
          exact ⟨ret_int HQ.out.symm, (by repeat (first | with_reducible exact Gro.refl _ | with_reducible exact Gro.refl_drew _ _ _ | with_reducible exact Gro.refl_drewN _ _ _ _ | assumption | with_reducible apply Gro.more | with_reducible apply Gro.alloc | with_reducible apply Gro.drew | with_reducible apply Gro.drewN))⟩
      · go_wp2
        go_ret
        exact ⟨ret_int (by
          have h3 := hs.out
          rw [szAll szProfile (show j = xs.length by omega)] at h3
          unfold szRes szL
          rw [if_pos (by omega)]
          omega), (by repeat (first | with_reducible exact Gro.refl _ | with_reducible exact Gro.refl_drew _ _ _ | with_reducible exact Gro.refl_drewN _ _ _ _ | assumption | with_reducible apply Gro.more | with_reducible apply Gro.alloc | with_reducible apply Gro.drew | with_reducible apply Gro.drewN))⟩
  · have HR := Lib.hid (show szRes left (szL szProfile xs) = -1 from if_neg (by unfold szL; omega))
    go_enter Tryz.func22, Tryz.ntmps22
    go_wp2
    go_ret
    exact ⟨ret_int HR.out.symm, Gro.refl _⟩
set_option maxRecDepth 100000 in
theorem toProfileS_l {xs : List DProfile} {w : World} {v : Value} (hx : (tProfile.sl 33).R w w.heap.size [v] xs) (hn : szL szProfile xs ≤ 1099511627776) :
    Calls Tryz.prog 24 #[v] w (RetSl tProfile 33 xs w) := by
  obtain ⟨A, c, rfl, h2, h3⟩ := sl_at hx
  obtain ⟨i0, hi, hz0, hz1, hz2⟩ := info_parts toProfileS_info
  have hn1 : xs.length ≤ 1099511627776 := Nat.le_trans (szL_len _ _) hn
  have hmk := run_make_rowN (P := Tryz.prog) 47 33 i0 _ Tryz.underlying47 hi hz0 .i64 .i64 xs.length xs.length (Nat.le_refl _) (by rw [hz2]; omega) (by omega)
  rw [hz1] at hmk
  clear hz0 hz1 hz2 hi
  go_enter Tryz.func24, Tryz.ntmps24
  go_wp2_with (fail)
  go_loopw [4] (fun i wr => ∃ (j : Nat) (cur : Array Value) (os : Array Obj) (d : Nat) (S' : List Nat), j ≤ xs.length ∧ i = .int .i64 j ∧ Hid (wr = gro (w.alloc (.cells cur 33)) os d) ∧ Hid (Rows tProfile (gro (w.alloc (.cells cur 33)) os d) (cur.toList.take (j * 2)) (xs.take j) S') ∧ Hid (S'.Nodup) ∧ Hid (∀ b ∈ S', w.heap.size + 1 ≤ b) ∧ Hid (cur.size = xs.length * 2)) (fun i _ => xs.length - (intOf i).toNat)
  case atStart => exact ⟨0, _, _, _, [], Nat.zero_le _, rfl, gro_refl, Lib.hid (by simp [Rows]), Lib.hid List.nodup_nil, Lib.hid (by simp), madeCells_size _ _⟩
  case round =>
    obtain ⟨j, cur, os, d, S', hj, rfl, hw, hr, hN, hL, hsz⟩ := hrel
    have hw' := hw.out
    subst hw'
    clear hw hmk
    by_cases hlt : j < xs.length
    · obtain ⟨g, off, x, A0, c0, A1, c1, rfl, hgb, hxk, hx0, hx1, bx0, bx1⟩ := atProfile hx hlt
      have hjs : j * 2 + 1 < cur.size := by have := hsz.out; omega
      have HX := Lib.hid hxk
      have hszx : szProfile x ≤ 1099511627776 := Nat.le_trans (szL_elem szProfile hxk) hn
      clear hxk hx
      go_wp2_with (fail)
      refine (toProfile_l (x := x) (Ty.up _ bx0 (by repeat (first | with_reducible exact Gro.refl _ | with_reducible exact Gro.refl_drew _ _ _ | with_reducible exact Gro.refl_drewN _ _ _ _ | assumption | with_reducible apply Gro.more | with_reducible apply Gro.alloc | with_reducible apply Gro.drew | with_reducible apply Gro.drewN))) (Ty.up _ bx1 (by repeat (first | with_reducible exact Gro.refl _ | with_reducible exact Gro.refl_drew _ _ _ | with_reducible exact Gro.refl_drewN _ _ _ _ | assumption | with_reducible apply Gro.more | with_reducible apply Gro.alloc | with_reducible apply Gro.drew | with_reducible apply Gro.drewN))) hszx).mono ?_
      rintro e w1 ⟨B0, f0, B1, f1, rfl, hF, os1, d1, rfl⟩
      obtain ⟨o0, ho0⟩ : ∃ u, cur[j * 2]? = some u := ⟨_, Array.getElem?_eq_getElem (by omega)⟩
      obtain ⟨o1, ho1⟩ : ∃ u, (cur.setIfInBounds (j * 2) (.slice B0 x.Stacks.Nodes.length f0))[j * 2 + 1]? = some u := ⟨_, Array.getElem?_eq_getElem (by simp only [Array.size_setIfInBounds]; omega)⟩
      go_wp2
      go_roundw
      case rel =>
        rw [gro_gro] at hF
        obtain ⟨S'', h1, h2, h3, h4⟩ := rows_put (T := tProfile) hr.out hN.out hL.out hsz.out hlt HX.out hF (by rw [← gro_gro]; exact Gro.of _ _ _)
        exact ⟨j + 1, _, os ++ os1, d1, S'', by omega, by go_num, gro_gro _ _ _ _, h1, h2, h3, h4⟩
      case measure => simp [intOf]; omega
    · have hje : j = xs.length := by omega
      subst hje
      go_wp2
      go_ret
      exact rows_done hr.out hN.out hL.out hsz.out (Nat.le_refl _) (by omega)
set_option maxRecDepth 100000 in
theorem eqProfileS_l {xs ys : List DProfile} {w : World} {v u : Value} (hx : (tProfile.sl 33).R w w.heap.size [v] xs) (hy : (tProfile.sl 33).R w w.heap.size [u] ys) :
    Calls Tryz.prog 26 #[v, u] w fun e w' => e = .returned (.bool (decide (xs = ys))) ∧ Gro w w' := by
  obtain ⟨A, c, rfl, h1, h2⟩ := sl_at hx
  obtain ⟨A', c', rfl, k1, k2⟩ := sl_at hy
  by_cases hl : xs.length = ys.length
  · have hne : ((xs.length : Int) != (ys.length : Int)) = false := by simp [hl]
    have HL := Lib.hid hl
    clear hl
    go_enter Tryz.func26, Tryz.ntmps26
    go_wp2_with (fail)
    go_loopw [5] (fun i wr => ∃ k : Nat, k ≤ xs.length ∧ i = .int .i64 k ∧ Hid (Gro w wr) ∧ Hid (xs.take k = ys.take k)) (fun i _ => xs.length - (intOf i).toNat)
    case atStart => exact ⟨0, Nat.zero_le _, rfl, Gro.refl _, Lib.hid (by simp)⟩
    case round =>
      obtain ⟨k, hk, rfl, hG, HT⟩ := hrel
      obtain ⟨os, d, rfl⟩ := hG.out
      clear hG
      by_cases hlt : k < xs.length
      · have hlt2 : k < ys.length := by rw [← HL.out]; exact hlt
        obtain ⟨g, off, x, A0, c0, A1, c1, rfl, hgb, hxk, hx0, hx1, bx0, bx1⟩ := atProfile hx hlt
        obtain ⟨g', off', y, B0, e0, B1, e1, rfl, hgb', hyk, hy0, hy1, by0, by1⟩ := atProfile hy hlt2
        have HX := Lib.hid hxk
        have HY := Lib.hid hyk
        clear hxk hyk hx hy
        by_cases hxy : x = y
        · subst hxy
          go_wp2_with (fail)
          go_region_held3 (fun w' => w'.cell? ⟨g, off + k * 2, none⟩ = some (.slice A0 x.Stacks.Nodes.length c0) ∧ w'.cell? ⟨g, off + k * 2 + 1, none⟩ = some (.slice A1 x.Counts.length c1) ∧ w'.cell? ⟨g', off' + k * 2, none⟩ = some (.slice B0 x.Stacks.Nodes.length e0) ∧ w'.cell? ⟨g', off' + k * 2 + 1, none⟩ = some (.slice B1 x.Counts.length e1)) ((repeat' apply And.intro) <;> (first | ((repeat (first | assumption | with_reducible refine gro_keeps ?_ _ _ | with_reducible refine alloc_keeps ?_ _ | with_reducible refine drew_keeps ?_)); done) | (simp [go_sem]; done))) (first
            | (go_at_call 15; refine (eqProfile_l (x := x) (y := x) (Ty.up _ bx0 (by repeat (first | with_reducible exact Gro.refl _ | with_reducible exact Gro.refl_drew _ _ _ | with_reducible exact Gro.refl_drewN _ _ _ _ | assumption | with_reducible apply Gro.more | with_reducible apply Gro.alloc | with_reducible apply Gro.drew | with_reducible apply Gro.drewN))) (Ty.up _ bx1 (by repeat (first | with_reducible exact Gro.refl _ | with_reducible exact Gro.refl_drew _ _ _ | with_reducible exact Gro.refl_drewN _ _ _ _ | assumption | with_reducible apply Gro.more | with_reducible apply Gro.alloc | with_reducible apply Gro.drew | with_reducible apply Gro.drewN))) (Ty.up _ by0 (by repeat (first | with_reducible exact Gro.refl _ | with_reducible exact Gro.refl_drew _ _ _ | with_reducible exact Gro.refl_drewN _ _ _ _ | assumption | with_reducible apply Gro.more | with_reducible apply Gro.alloc | with_reducible apply Gro.drew | with_reducible apply Gro.drewN))) (Ty.up _ by1 (by repeat (first | with_reducible exact Gro.refl _ | with_reducible exact Gro.refl_drew _ _ _ | with_reducible exact Gro.refl_drewN _ _ _ _ | assumption | with_reducible apply Gro.more | with_reducible apply Gro.alloc | with_reducible apply Gro.drew | with_reducible apply Gro.drewN)))).mono ?_; rintro e w1 ⟨rfl, os1, d1, rfl⟩))
          go_wp2
          go_roundw
          case rel => exact ⟨k + 1, by omega, by go_num, Lib.hid (by repeat (first | with_reducible exact Gro.refl _ | with_reducible exact Gro.refl_drew _ _ _ | with_reducible exact Gro.refl_drewN _ _ _ _ | assumption | with_reducible apply Gro.more | with_reducible apply Gro.alloc | with_reducible apply Gro.drew | with_reducible apply Gro.drewN)), Lib.hid (by rw [take_snoc HX.out, take_snoc HY.out, HT.out])⟩
          case measure => simp [intOf]; omega
        · have HXY := Lib.hid (show decide (x = y) = false from by simp [hxy])
          go_wp2_with (fail)
          go_region_held3 (fun w' => w'.cell? ⟨g, off + k * 2, none⟩ = some (.slice A0 x.Stacks.Nodes.length c0) ∧ w'.cell? ⟨g, off + k * 2 + 1, none⟩ = some (.slice A1 x.Counts.length c1) ∧ w'.cell? ⟨g', off' + k * 2, none⟩ = some (.slice B0 y.Stacks.Nodes.length e0) ∧ w'.cell? ⟨g', off' + k * 2 + 1, none⟩ = some (.slice B1 y.Counts.length e1)) ((repeat' apply And.intro) <;> (first | ((repeat (first | assumption | with_reducible refine gro_keeps ?_ _ _ | with_reducible refine alloc_keeps ?_ _ | with_reducible refine drew_keeps ?_)); done) | (simp [go_sem]; done))) (first
            | (go_at_call 15; refine (eqProfile_l (x := x) (y := y) (Ty.up _ bx0 (by repeat (first | with_reducible exact Gro.refl _ | with_reducible exact Gro.refl_drew _ _ _ | with_reducible exact Gro.refl_drewN _ _ _ _ | assumption | with_reducible apply Gro.more | with_reducible apply Gro.alloc | with_reducible apply Gro.drew | with_reducible apply Gro.drewN))) (Ty.up _ bx1 (by repeat (first | with_reducible exact Gro.refl _ | with_reducible exact Gro.refl_drew _ _ _ | with_reducible exact Gro.refl_drewN _ _ _ _ | assumption | with_reducible apply Gro.more | with_reducible apply Gro.alloc | with_reducible apply Gro.drew | with_reducible apply Gro.drewN))) (Ty.up _ by0 (by repeat (first | with_reducible exact Gro.refl _ | with_reducible exact Gro.refl_drew _ _ _ | with_reducible exact Gro.refl_drewN _ _ _ _ | assumption | with_reducible apply Gro.more | with_reducible apply Gro.alloc | with_reducible apply Gro.drew | with_reducible apply Gro.drewN))) (Ty.up _ by1 (by repeat (first | with_reducible exact Gro.refl _ | with_reducible exact Gro.refl_drew _ _ _ | with_reducible exact Gro.refl_drewN _ _ _ _ | assumption | with_reducible apply Gro.more | with_reducible apply Gro.alloc | with_reducible apply Gro.drew | with_reducible apply Gro.drewN)))).mono ?_; rw [HXY.out]; rintro e w1 ⟨rfl, os1, d1, rfl⟩))
          go_wp2
          go_ret
          refine ⟨ret_bool ?_, (by repeat (first | with_reducible exact Gro.refl _ | with_reducible exact Gro.refl_drew _ _ _ | with_reducible exact Gro.refl_drewN _ _ _ _ | assumption | with_reducible apply Gro.more | with_reducible apply Gro.alloc | with_reducible apply Gro.drew | with_reducible apply Gro.drewN))⟩
          symm
          simp only [decide_eq_false_iff_not]
          rintro rfl
          exact hxy (Option.some.inj (HX.out.symm.trans HY.out))
      · go_wp2
        go_ret
        refine ⟨ret_bool ?_, (by repeat (first | with_reducible exact Gro.refl _ | with_reducible exact Gro.refl_drew _ _ _ | with_reducible exact Gro.refl_drewN _ _ _ _ | assumption | with_reducible apply Gro.more | with_reducible apply Gro.alloc | with_reducible apply Gro.drew | with_reducible apply Gro.drewN))⟩
        have : k = xs.length := by omega
        subst this
        have h1 := HT.out
        rw [HL.out] at h1
        simp only [List.take_length] at h1
        rw [← HL.out] at h1
        simp at h1
        simp [h1]
  · have hne : ((xs.length : Int) != (ys.length : Int)) = true := by simp; omega
    go_enter Tryz.func26, Tryz.ntmps26
    go_wp2
    go_ret
    exact ⟨ret_bool (by symm; simp only [decide_eq_false_iff_not]; rintro rfl; exact hl rfl), Gro.refl _⟩
set_option maxRecDepth 100000 in
set_option maxHeartbeats 2000000 in
theorem markProfileS_l {xs : List DProfile} {w : World} {A : Option Addr} {n c : Nat} {k : Int} {S : List Nat} (hO : (tProfile.sl 33).O w [.slice A n c] xs S) (hS : S.Nodup) (h0 : 0 < k) (h1 : k + (cntProfileS xs : Nat) ≤ 1099511627776) :
    Calls Tryz.prog 27 #[.slice A n c, .int .i64 k] w fun e w' => e = .returned (.int .i64 (k + (cntProfileS xs : Nat))) ∧ (tProfile.sl 33).O w' [.slice A n c] (mkProfileS xs k) S ∧ OnlyS S w w' := by
  obtain ⟨_, _, hx, h2, h3⟩ := sl_at (Ty.read _ hO)
  injection hx with hA hn hc
  subst hA hn hc
  have h3c := h3
  clear h3
  unfold cntProfileS at h1 ⊢
  go_enter Tryz.func27, Tryz.ntmps27
  go_wp2_with (fail)
  go_loopw [1, 5] (fun a i wr => ∃ (j q : Nat), j ≤ xs.length ∧ a = .int .i64 (k + q) ∧ i = .int .i64 j ∧ Hid (cntL cntProfile (xs.take j) = q) ∧ Hid ((tProfile.sl 33).O wr [.slice A xs.length c] (mkTo mkProfile cntProfile xs k j) S) ∧ Hid (OnlyS S w wr)) (fun _ i _ => xs.length - (intOf i).toNat)
  case atStart => exact ⟨0, 0, Nat.zero_le _, by simp, rfl, Lib.hid (by simp [cntL]), Lib.hid (by rw [mkTo_zero]; exact hO), OnlyS.refl _ _⟩
  case round =>
    obtain ⟨j, q, hj, rfl, rfl, hq, ho, hs⟩ := hrel
    by_cases hlt : j < xs.length
    · have hxj : xs[j]? = some xs[j] := List.getElem?_eq_getElem hlt
      obtain ⟨g, ec, Sc, rfl, hgS, hgl, hgc, hSc, hNc, hO1, hcell, hset⟩ := own_sub ho.out hS (mkTo_get hxj k)
      generalize hxe : xs[j] = x at hxj hO1
      clear hxe
      have hqs : q + cntProfile x ≤ cntL cntProfile xs := by
        have := cntL_snoc (cnt := cntProfile) hxj
        have h9 := cntL_take_le (cnt := cntProfile) xs (j + 1)
        have := hq.out
        omega
      have hq2 := Lib.hid (show cntL cntProfile (xs.take (j + 1)) = q + cntProfile x from by rw [cntL_snoc hxj, hq.out])
      rw [show cntProfile x = cntNodeS x.Stacks.Nodes + x.Counts.length from rfl] at hqs
      obtain ⟨A0, c0, S0, A1, c1, S1, hcl, rfl, hO0, hO1⟩ := tProfile_O hO1
      subst hcl
      have hc0 := hcell 0 _ rfl
      have hc1 := hcell 1 _ rfl
      simp only [Nat.add_zero, show tProfile.size = 2 from rfl] at hc0 hc1
      have HX := Lib.hid hxj
      have HS := Lib.hid hset
      obtain ⟨hN0, hN1, hD01, hD10⟩ := nd2 hNc
      clear hcell hset hxj hO hO1
      have hL0 := Ty.ltO _ hO0
      have hL1 := Ty.ltO _ hO1
      go_wp2_with (fail)
      refine (markNodeS_l (xs := x.Stacks.Nodes) hO0 hN0 (by omega) (by omega)).mono ?_
      rintro e w1 ⟨rfl, hM0, hs1⟩
      have hO1_0 := keepOnly _ hO1 hs1 (Gro.refl _) hD10
      have hc1_0 := (hs1.cell hgl (fun hm => hgc (by simp [hm])) _).trans hc0
      have hc1_1 := (hs1.cell hgl (fun hm => hgc (by simp [hm])) _).trans hc1
      have hgl1 : g < w1.heap.size := Nat.lt_of_lt_of_le hgl hs1.size
      clear hc0 hc1
      go_wp2_with (fail)
      refine (markIntS_l (xs := x.Counts) hO1_0 hN1 (by omega) (by omega)).mono ?_
      rintro e w2 ⟨rfl, hM1, hs2⟩
      have hM0_1 := keepOnly _ hM0 hs2 (Gro.refl _) hD01
      replace hM0 := hM0_1
      go_wp2
      go_roundw
      case rel =>
        have hy := (tProfile_mkOd (w := w2) (x := (mkProfile x (k + q))) (tStacks_mkOd (w := w2) (x := (mkProfile x (k + q)).Stacks) (by simpa [mkProfile, mkStacks, mkNodeS_length, mkInts_length, cntStacks] using hM0)) (by simpa [mkProfile, mkStacks, mkNodeS_length, mkInts_length, cntStacks] using hM1))
        have hy2 : tProfile.O w2 [.slice A0 x.Stacks.Nodes.length c0, .slice A1 x.Counts.length c1] (mkProfile x (k + q)) (S0 ++ S1) := by simpa [mkProfile, mkStacks, mkNodeS_length, mkInts_length, cntStacks] using hy
        have hon : OnlyS (S0 ++ S1) wr w2 := ((hs1.mono (fun b hb => by simp [hb])).trans (hs2.mono (fun b hb => by simp [hb])))
        have h := HS.out w2 (mkProfile x (k + q)) hy2 hon
        have e := mkTo_set (mk := mkProfile) (cnt := cntProfile) HX.out k
        rw [hq.out] at e
        rw [e] at h
        refine ⟨j + 1, q + cntProfile x, by omega, ?_, by go_num, hq2, Lib.hid h, Lib.hid (hs.out.trans (hon.mono hSc))⟩
        exact congrArg (Value.int .i64) (by rw [show cntProfile x = cntNodeS x.Stacks.Nodes + x.Counts.length from rfl]; push_cast; omega)
      case measure => simp [intOf]; omega
    · go_wp2
      have : j = xs.length := by omega
      subst this
      have ho' := ho.out
      rw [mkTo_all] at ho'
      have hq' := hq.out
      rw [List.take_length] at hq'
      go_ret
      exact ⟨ret_int (by rw [hq']), ho', hs.out⟩
end Go.Proofs.YtfpacmfhpkcipaaGreatDoor
