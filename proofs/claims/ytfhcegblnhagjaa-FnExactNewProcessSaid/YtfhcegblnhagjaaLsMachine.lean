/-
  LISTS OF STRUCTS THAT HOLD SCALARS AND SLICES, written by a program (genmix.py): Machine: the laws' own toXS, szXS, eqXS, markXS, heldXS.
-/
import Derived.Test.YtfhcegblnhagjaaMix
import Derived.Test.YtfhcegblnhagjaaFnMachine
import Derived.Deep.RegionHeld3
set_option linter.unusedVariables false
set_option linter.unusedSimpArgs false
namespace Go.Proofs.Ytfhcegblnhagjaa
open Go.RowKit
theorem atMachine {e : TypeId} {w : World} {B : Nat} {A : Option Addr} {n c : Nat} {xs : List DMachine} (h : (tMachine.sl e).R w B [.slice A n c] xs) {k : Nat} (hk : k < xs.length) :
    ∃ g off x A0 c0 A1 c1, A = some ⟨g, off, none⟩ ∧ g < B ∧ xs[k]? = some x ∧ w.cell? ⟨g, off + k * 7, none⟩ = some (.int .i64 x.Pc) ∧ w.cell? ⟨g, off + k * 7 + 1, none⟩ = some (.int .i64 x.Sp) ∧ w.cell? ⟨g, off + k * 7 + 2, none⟩ = some (.int .i64 x.Fp) ∧ w.cell? ⟨g, off + k * 7 + 3, none⟩ = some (.slice A0 x.Stack.length c0) ∧ w.cell? ⟨g, off + k * 7 + 4, none⟩ = some (.slice A1 x.Out.length c1) ∧ w.cell? ⟨g, off + k * 7 + 5, none⟩ = some (.int .i64 x.State) ∧ w.cell? ⟨g, off + k * 7 + 6, none⟩ = some (.int .i64 x.Value) ∧ I64 x.Pc ∧ I64 x.Sp ∧ I64 x.Fp ∧ (intT.sl 3).R w B [.slice A0 x.Stack.length c0] x.Stack ∧ (intT.sl 3).R w B [.slice A1 x.Out.length c1] x.Out ∧ I64 x.State ∧ I64 x.Value := by
  obtain ⟨g, off, x, ec, h1, hB, h2, h3, h4⟩ := elem_at h hk
  obtain ⟨A0, c0, A1, c1, rfl, hf⟩ := tMachine_R h3
  exact ⟨g, off, x, A0, c0, A1, c1, h1, hB, h2, h4 0 _ rfl, h4 1 _ rfl, h4 2 _ rfl, h4 3 _ rfl, h4 4 _ rfl, h4 5 _ rfl, h4 6 _ rfl, hf⟩
def mkEMachine (x : DMachine) (k : Int) : DMachine := ⟨k, k + 1, k + 1 + 1, mkInts x.Stack (k + 1 + 1 + 1), mkInts x.Out (k + 1 + 1 + 1 + (x.Stack.length : Nat)), k + 1 + 1 + 1 + (x.Stack.length : Nat) + (x.Out.length : Nat), k + 1 + 1 + 1 + (x.Stack.length : Nat) + (x.Out.length : Nat) + 1⟩
def cntEMachine (x : DMachine) : Nat := 5 + x.Stack.length + x.Out.length
def mkMachineS (xs : List DMachine) (k : Int) : List DMachine := mkL mkEMachine cntEMachine xs k
def cntMachineS (xs : List DMachine) : Nat := cntL cntEMachine xs
theorem mkMachineS_length (xs : List DMachine) (k : Int) : (mkMachineS xs k).length = xs.length := mkL_length _ _
theorem cntEMachine_eq (x : DMachine) : cntEMachine x = 5 + x.Stack.length + x.Out.length := rfl
theorem toMachineS_info : (Try.prog.info? 80).map (fun i => (i.zero, i.size, i.bytes)) = some (some (.agg #[.int .i64 0, .int .i64 0, .int .i64 0, .slice none 0 0, .slice none 0 0, .int .i64 0, .int .i64 0]), 7, 88) := by kernel_rfl
theorem elMachine : Elem Try.prog 34 80 tMachine 88 := by
  obtain ⟨i0, hi, hz0, hz1, hz2⟩ := info_parts toMachineS_info
  exact ⟨Try.underlying34, ⟨i0, _, hi, hz0, hz1, hz2, rfl⟩, by decide⟩
set_option maxRecDepth 100000 in
theorem szMachineS_l {xs : List DMachine} {w : World} {v : Value} {left : Int} (hx : (tMachine.sl 80).R w w.heap.size [v] xs) (h0 : 0 ≤ left) (h1 : left ≤ 1099511627776) :
    Calls Try.prog 42 #[v, .int .i64 left] w fun e w' => e = .returned (.int .i64 (szRes left (szL szMachine xs))) ∧ Gro w w' := by
  obtain ⟨A, c, rfl, h2, h3⟩ := sl_at hx
  by_cases h : (xs.length : Int) ≤ left
  · go_enter Try.func42, Try.ntmps42
    go_wp2_with (fail)
    go_loopw [1, 5] (fun a i wr => ∃ (j s : Nat), j ≤ xs.length ∧ Hid (s = ((xs.take j).map szMachine).sum) ∧ (xs.length : Int) + s ≤ left ∧ a = .int .i64 (left - xs.length - s) ∧ i = .int .i64 j ∧ Hid (Gro w wr)) (fun _ i _ => xs.length - (intOf i).toNat)
    case atStart => exact ⟨0, 0, Nat.zero_le _, rfl, by omega, by simp, rfl, Gro.refl _⟩
    case round =>
      obtain ⟨j, s, hj, hs, hle, rfl, rfl, hG⟩ := hrel
      obtain ⟨os, d, rfl⟩ := hG.out
      clear hG
      by_cases hlt : j < xs.length
      · obtain ⟨g, off, x, A0, c0, A1, c1, rfl, hgb, hxk, hx0, hx1, hx2, hx3, hx4, hx5, hx6, bx0, bx1, bx2, bx3, bx4, bx5, bx6⟩ := atMachine hx hlt
        have HX := Lib.hid (szSnoc szMachine hxk)
        have HM := Lib.hid (szLe szMachine xs (j + 1))
        obtain ⟨n0, hn0⟩ : ∃ n, szMachine x = n := ⟨_, rfl⟩
        have HN := Lib.hid hn0
        clear hxk hx hn0
        by_cases hsz : (xs.length : Int) + s + n0 ≤ left
        · have HR := Lib.hid (show szRes (left - xs.length - s) n0 = left - xs.length - s - n0 from if_pos (by omega))
          go_wp2_with (go_at_call 80; refine (szMachine_l (x := x) (Ty.up _ bx3 (by repeat (first | with_reducible exact Gro.refl _ | with_reducible exact Gro.refl_drew _ _ _ | with_reducible exact Gro.refl_drewN _ _ _ _ | assumption | with_reducible apply Gro.more | with_reducible apply Gro.alloc | with_reducible apply Gro.drew | with_reducible apply Gro.drewN))) (Ty.up _ bx4 (by repeat (first | with_reducible exact Gro.refl _ | with_reducible exact Gro.refl_drew _ _ _ | with_reducible exact Gro.refl_drewN _ _ _ _ | assumption | with_reducible apply Gro.more | with_reducible apply Gro.alloc | with_reducible apply Gro.drew | with_reducible apply Gro.drewN))) (by omega) (by omega)).mono ?_; rw [HN.out, HR.out]; rintro e w1 ⟨rfl, os1, d1, rfl⟩)
          go_roundw
          case rel => exact ⟨j + 1, s + n0, by omega, Lib.hid (by rw [hs.out, HX.out, HN.out]), by omega, by go_num, by go_num, Lib.hid (by repeat (first | with_reducible exact Gro.refl _ | with_reducible exact Gro.refl_drew _ _ _ | with_reducible exact Gro.refl_drewN _ _ _ _ | assumption | with_reducible apply Gro.more | with_reducible apply Gro.alloc | with_reducible apply Gro.drew | with_reducible apply Gro.drewN))⟩
          case measure => simp [intOf]; omega
        · have HR := Lib.hid (show szRes (left - xs.length - s) n0 = -1 from if_neg (by omega))
          have HQ := Lib.hid (show szRes left (szL szMachine xs) = -1 from if_neg (by have h1 := HX.out; have h2 := HM.out; have h3 := hs.out; have h4 := HN.out; unfold szL; omega))
          go_wp2_with (go_at_call 80; refine (szMachine_l (x := x) (Ty.up _ bx3 (by repeat (first | with_reducible exact Gro.refl _ | with_reducible exact Gro.refl_drew _ _ _ | with_reducible exact Gro.refl_drewN _ _ _ _ | assumption | with_reducible apply Gro.more | with_reducible apply Gro.alloc | with_reducible apply Gro.drew | with_reducible apply Gro.drewN))) (Ty.up _ bx4 (by repeat (first | with_reducible exact Gro.refl _ | with_reducible exact Gro.refl_drew _ _ _ | with_reducible exact Gro.refl_drewN _ _ _ _ | assumption | with_reducible apply Gro.more | with_reducible apply Gro.alloc | with_reducible apply Gro.drew | with_reducible apply Gro.drewN))) (by omega) (by omega)).mono ?_; rw [HN.out, HR.out]; rintro e w1 ⟨rfl, os1, d1, rfl⟩)
          go_ret
          exact ⟨ret_int HQ.out.symm, (by repeat (first | with_reducible exact Gro.refl _ | with_reducible exact Gro.refl_drew _ _ _ | with_reducible exact Gro.refl_drewN _ _ _ _ | assumption | with_reducible apply Gro.more | with_reducible apply Gro.alloc | with_reducible apply Gro.drew | with_reducible apply Gro.drewN))⟩
      · go_wp2
        go_ret
        exact ⟨ret_int (by
          have h3 := hs.out
          rw [szAll szMachine (show j = xs.length by omega)] at h3
          unfold szRes szL
          rw [if_pos (by omega)]
          omega), (by repeat (first | with_reducible exact Gro.refl _ | with_reducible exact Gro.refl_drew _ _ _ | with_reducible exact Gro.refl_drewN _ _ _ _ | assumption | with_reducible apply Gro.more | with_reducible apply Gro.alloc | with_reducible apply Gro.drew | with_reducible apply Gro.drewN))⟩
  · have HR := Lib.hid (show szRes left (szL szMachine xs) = -1 from if_neg (by unfold szL; omega))
    go_enter Try.func42, Try.ntmps42
    go_wp2
    go_ret
    exact ⟨ret_int HR.out.symm, Gro.refl _⟩
set_option maxHeartbeats 8000000 in
set_option maxRecDepth 100000 in
theorem toMachineS_l {xs : List DMachine} {w : World} {v : Value} (hx : (tMachine.sl 80).R w w.heap.size [v] xs) (hn : szL szMachine xs ≤ 1099511627776) :
    Calls Try.prog 46 #[v] w (RetSl tMachine 80 xs w) := by
  obtain ⟨A, c, rfl, h2, h3⟩ := sl_at hx
  obtain ⟨i0, hi, hz0, hz1, hz2⟩ := info_parts toMachineS_info
  have hn1 : xs.length ≤ 1099511627776 := Nat.le_trans (szL_len _ _) hn
  have hmk := run_make_rowN (P := Try.prog) 34 80 i0 _ Try.underlying34 hi hz0 .i64 .i64 xs.length xs.length (Nat.le_refl _) (by rw [hz2]; omega) (by omega)
  rw [hz1] at hmk
  clear hz0 hz1 hz2 hi
  go_enter Try.func46, Try.ntmps46
  go_wp2_with (fail)
  go_loopw [4] (fun i wr => ∃ (j : Nat) (cur : Array Value) (os : Array Obj) (d : Nat) (S' : List Nat), j ≤ xs.length ∧ i = .int .i64 j ∧ Hid (wr = gro (w.alloc (.cells cur 80)) os d) ∧ Hid (Rows tMachine (gro (w.alloc (.cells cur 80)) os d) (cur.toList.take (j * 7)) (xs.take j) S') ∧ Hid (S'.Nodup) ∧ Hid (∀ b ∈ S', w.heap.size + 1 ≤ b) ∧ Hid (cur.size = xs.length * 7)) (fun i _ => xs.length - (intOf i).toNat)
  case atStart => exact ⟨0, _, _, _, [], Nat.zero_le _, rfl, gro_refl, Lib.hid (by simp [Rows]), Lib.hid List.nodup_nil, Lib.hid (by simp), madeCells_size _ _⟩
  case round =>
    obtain ⟨j, cur, os, d, S', hj, rfl, hw, hr, hN, hL, hsz⟩ := hrel
    have hw' := hw.out
    subst hw'
    clear hw hmk
    by_cases hlt : j < xs.length
    · obtain ⟨g, off, x, A0, c0, A1, c1, rfl, hgb, hxk, hx0, hx1, hx2, hx3, hx4, hx5, hx6, bx0, bx1, bx2, bx3, bx4, bx5, bx6⟩ := atMachine hx hlt
      have hjs : j * 7 + 6 < cur.size := by have := hsz.out; omega
      have HX := Lib.hid hxk
      have hszx : szMachine x ≤ 1099511627776 := Nat.le_trans (szL_elem szMachine hxk) hn
      clear hxk hx
      go_wp2_with (fail)
      refine (toMachine_l (x := x) bx0 bx1 bx2 (Ty.up _ bx3 (by repeat (first | with_reducible exact Gro.refl _ | with_reducible exact Gro.refl_drew _ _ _ | with_reducible exact Gro.refl_drewN _ _ _ _ | assumption | with_reducible apply Gro.more | with_reducible apply Gro.alloc | with_reducible apply Gro.drew | with_reducible apply Gro.drewN))) (Ty.up _ bx4 (by repeat (first | with_reducible exact Gro.refl _ | with_reducible exact Gro.refl_drew _ _ _ | with_reducible exact Gro.refl_drewN _ _ _ _ | assumption | with_reducible apply Gro.more | with_reducible apply Gro.alloc | with_reducible apply Gro.drew | with_reducible apply Gro.drewN))) bx5 bx6 hszx).mono ?_
      rintro e w1 ⟨B0, f0, B1, f1, rfl, hF, os1, d1, rfl⟩
      obtain ⟨o0, ho0⟩ : ∃ u, cur[j * 7]? = some u := ⟨_, Array.getElem?_eq_getElem (by omega)⟩
      obtain ⟨o1, ho1⟩ : ∃ u, (cur.setIfInBounds (j * 7) (.int .i64 x.Pc))[j * 7 + 1]? = some u := ⟨_, Array.getElem?_eq_getElem (by simp only [Array.size_setIfInBounds]; omega)⟩
      obtain ⟨o2, ho2⟩ : ∃ u, ((cur.setIfInBounds (j * 7) (.int .i64 x.Pc)).setIfInBounds (j * 7 + 1) (.int .i64 x.Sp))[j * 7 + 2]? = some u := ⟨_, Array.getElem?_eq_getElem (by simp only [Array.size_setIfInBounds]; omega)⟩
      obtain ⟨o3, ho3⟩ : ∃ u, (((cur.setIfInBounds (j * 7) (.int .i64 x.Pc)).setIfInBounds (j * 7 + 1) (.int .i64 x.Sp)).setIfInBounds (j * 7 + 2) (.int .i64 x.Fp))[j * 7 + 3]? = some u := ⟨_, Array.getElem?_eq_getElem (by simp only [Array.size_setIfInBounds]; omega)⟩
      obtain ⟨o4, ho4⟩ : ∃ u, ((((cur.setIfInBounds (j * 7) (.int .i64 x.Pc)).setIfInBounds (j * 7 + 1) (.int .i64 x.Sp)).setIfInBounds (j * 7 + 2) (.int .i64 x.Fp)).setIfInBounds (j * 7 + 3) (.slice B0 x.Stack.length f0))[j * 7 + 4]? = some u := ⟨_, Array.getElem?_eq_getElem (by simp only [Array.size_setIfInBounds]; omega)⟩
      obtain ⟨o5, ho5⟩ : ∃ u, (((((cur.setIfInBounds (j * 7) (.int .i64 x.Pc)).setIfInBounds (j * 7 + 1) (.int .i64 x.Sp)).setIfInBounds (j * 7 + 2) (.int .i64 x.Fp)).setIfInBounds (j * 7 + 3) (.slice B0 x.Stack.length f0)).setIfInBounds (j * 7 + 4) (.slice B1 x.Out.length f1))[j * 7 + 5]? = some u := ⟨_, Array.getElem?_eq_getElem (by simp only [Array.size_setIfInBounds]; omega)⟩
      obtain ⟨o6, ho6⟩ : ∃ u, ((((((cur.setIfInBounds (j * 7) (.int .i64 x.Pc)).setIfInBounds (j * 7 + 1) (.int .i64 x.Sp)).setIfInBounds (j * 7 + 2) (.int .i64 x.Fp)).setIfInBounds (j * 7 + 3) (.slice B0 x.Stack.length f0)).setIfInBounds (j * 7 + 4) (.slice B1 x.Out.length f1)).setIfInBounds (j * 7 + 5) (.int .i64 x.State))[j * 7 + 6]? = some u := ⟨_, Array.getElem?_eq_getElem (by simp only [Array.size_setIfInBounds]; omega)⟩
      go_wp2
      go_roundw
      case rel =>
        rw [gro_gro] at hF
        obtain ⟨S'', h1, h2, h3, h4⟩ := rows_put (T := tMachine) hr.out hN.out hL.out hsz.out hlt HX.out hF (by rw [← gro_gro]; exact Gro.of _ _ _)
        exact ⟨j + 1, _, os ++ os1, d1, S'', by omega, by go_num, gro_gro _ _ _ _, h1, h2, h3, h4⟩
      case measure => simp [intOf]; omega
    · have hje : j = xs.length := by omega
      subst hje
      go_wp2
      go_ret
      exact rows_done hr.out hN.out hL.out hsz.out (Nat.le_refl _) (by omega)
set_option maxHeartbeats 8000000 in
set_option maxRecDepth 100000 in
theorem eqMachineS_l {xs ys : List DMachine} {w : World} {v u : Value} (hx : (tMachine.sl 80).R w w.heap.size [v] xs) (hy : (tMachine.sl 80).R w w.heap.size [u] ys) :
    Calls Try.prog 50 #[v, u] w fun e w' => e = .returned (.bool (decide (xs = ys))) ∧ Gro w w' := by
  obtain ⟨A, c, rfl, h1, h2⟩ := sl_at hx
  obtain ⟨A', c', rfl, k1, k2⟩ := sl_at hy
  by_cases hl : xs.length = ys.length
  · have hne : ((xs.length : Int) != (ys.length : Int)) = false := by simp [hl]
    have HL := Lib.hid hl
    clear hl
    go_enter Try.func50, Try.ntmps50
    go_wp2_with (fail)
    go_loopw [5] (fun i wr => ∃ k : Nat, k ≤ xs.length ∧ i = .int .i64 k ∧ Hid (Gro w wr) ∧ Hid (xs.take k = ys.take k)) (fun i _ => xs.length - (intOf i).toNat)
    case atStart => exact ⟨0, Nat.zero_le _, rfl, Gro.refl _, Lib.hid (by simp)⟩
    case round =>
      obtain ⟨k, hk, rfl, hG, HT⟩ := hrel
      obtain ⟨os, d, rfl⟩ := hG.out
      clear hG
      by_cases hlt : k < xs.length
      · have hlt2 : k < ys.length := by rw [← HL.out]; exact hlt
        obtain ⟨g, off, x, A0, c0, A1, c1, rfl, hgb, hxk, hx0, hx1, hx2, hx3, hx4, hx5, hx6, bx0, bx1, bx2, bx3, bx4, bx5, bx6⟩ := atMachine hx hlt
        obtain ⟨g', off', y, B0, e0, B1, e1, rfl, hgb', hyk, hy0, hy1, hy2, hy3, hy4, hy5, hy6, by0, by1, by2, by3, by4, by5, by6⟩ := atMachine hy hlt2
        have HX := Lib.hid hxk
        have HY := Lib.hid hyk
        clear hxk hyk hx hy
        by_cases hxy : x = y
        · subst hxy
          go_wp2_with (fail)
          go_region_held3 (fun w' => w'.cell? ⟨g, off + k * 7, none⟩ = some (.int .i64 x.Pc) ∧ w'.cell? ⟨g, off + k * 7 + 1, none⟩ = some (.int .i64 x.Sp) ∧ w'.cell? ⟨g, off + k * 7 + 2, none⟩ = some (.int .i64 x.Fp) ∧ w'.cell? ⟨g, off + k * 7 + 3, none⟩ = some (.slice A0 x.Stack.length c0) ∧ w'.cell? ⟨g, off + k * 7 + 4, none⟩ = some (.slice A1 x.Out.length c1) ∧ w'.cell? ⟨g, off + k * 7 + 5, none⟩ = some (.int .i64 x.State) ∧ w'.cell? ⟨g, off + k * 7 + 6, none⟩ = some (.int .i64 x.Value) ∧ w'.cell? ⟨g', off' + k * 7, none⟩ = some (.int .i64 x.Pc) ∧ w'.cell? ⟨g', off' + k * 7 + 1, none⟩ = some (.int .i64 x.Sp) ∧ w'.cell? ⟨g', off' + k * 7 + 2, none⟩ = some (.int .i64 x.Fp) ∧ w'.cell? ⟨g', off' + k * 7 + 3, none⟩ = some (.slice B0 x.Stack.length e0) ∧ w'.cell? ⟨g', off' + k * 7 + 4, none⟩ = some (.slice B1 x.Out.length e1) ∧ w'.cell? ⟨g', off' + k * 7 + 5, none⟩ = some (.int .i64 x.State) ∧ w'.cell? ⟨g', off' + k * 7 + 6, none⟩ = some (.int .i64 x.Value)) ((repeat' apply And.intro) <;> (first | ((repeat (first | assumption | with_reducible refine gro_keeps ?_ _ _ | with_reducible refine alloc_keeps ?_ _ | with_reducible refine drew_keeps ?_)); done) | (simp [go_sem]; done))) (first
            | (go_at_call 87; refine (eqMachine_l (x := x) (y := x) (Ty.up _ bx3 (by repeat (first | with_reducible exact Gro.refl _ | with_reducible exact Gro.refl_drew _ _ _ | with_reducible exact Gro.refl_drewN _ _ _ _ | assumption | with_reducible apply Gro.more | with_reducible apply Gro.alloc | with_reducible apply Gro.drew | with_reducible apply Gro.drewN))) (Ty.up _ bx4 (by repeat (first | with_reducible exact Gro.refl _ | with_reducible exact Gro.refl_drew _ _ _ | with_reducible exact Gro.refl_drewN _ _ _ _ | assumption | with_reducible apply Gro.more | with_reducible apply Gro.alloc | with_reducible apply Gro.drew | with_reducible apply Gro.drewN))) (Ty.up _ by3 (by repeat (first | with_reducible exact Gro.refl _ | with_reducible exact Gro.refl_drew _ _ _ | with_reducible exact Gro.refl_drewN _ _ _ _ | assumption | with_reducible apply Gro.more | with_reducible apply Gro.alloc | with_reducible apply Gro.drew | with_reducible apply Gro.drewN))) (Ty.up _ by4 (by repeat (first | with_reducible exact Gro.refl _ | with_reducible exact Gro.refl_drew _ _ _ | with_reducible exact Gro.refl_drewN _ _ _ _ | assumption | with_reducible apply Gro.more | with_reducible apply Gro.alloc | with_reducible apply Gro.drew | with_reducible apply Gro.drewN)))).mono ?_; rintro e w1 ⟨rfl, os1, d1, rfl⟩))
          go_wp2
          go_roundw
          case rel => exact ⟨k + 1, by omega, by go_num, Lib.hid (by repeat (first | with_reducible exact Gro.refl _ | with_reducible exact Gro.refl_drew _ _ _ | with_reducible exact Gro.refl_drewN _ _ _ _ | assumption | with_reducible apply Gro.more | with_reducible apply Gro.alloc | with_reducible apply Gro.drew | with_reducible apply Gro.drewN)), Lib.hid (by rw [take_snoc HX.out, take_snoc HY.out, HT.out])⟩
          case measure => simp [intOf]; omega
        · have HXY := Lib.hid (show decide (x = y) = false from by simp [hxy])
          go_wp2_with (fail)
          go_region_held3 (fun w' => w'.cell? ⟨g, off + k * 7, none⟩ = some (.int .i64 x.Pc) ∧ w'.cell? ⟨g, off + k * 7 + 1, none⟩ = some (.int .i64 x.Sp) ∧ w'.cell? ⟨g, off + k * 7 + 2, none⟩ = some (.int .i64 x.Fp) ∧ w'.cell? ⟨g, off + k * 7 + 3, none⟩ = some (.slice A0 x.Stack.length c0) ∧ w'.cell? ⟨g, off + k * 7 + 4, none⟩ = some (.slice A1 x.Out.length c1) ∧ w'.cell? ⟨g, off + k * 7 + 5, none⟩ = some (.int .i64 x.State) ∧ w'.cell? ⟨g, off + k * 7 + 6, none⟩ = some (.int .i64 x.Value) ∧ w'.cell? ⟨g', off' + k * 7, none⟩ = some (.int .i64 y.Pc) ∧ w'.cell? ⟨g', off' + k * 7 + 1, none⟩ = some (.int .i64 y.Sp) ∧ w'.cell? ⟨g', off' + k * 7 + 2, none⟩ = some (.int .i64 y.Fp) ∧ w'.cell? ⟨g', off' + k * 7 + 3, none⟩ = some (.slice B0 y.Stack.length e0) ∧ w'.cell? ⟨g', off' + k * 7 + 4, none⟩ = some (.slice B1 y.Out.length e1) ∧ w'.cell? ⟨g', off' + k * 7 + 5, none⟩ = some (.int .i64 y.State) ∧ w'.cell? ⟨g', off' + k * 7 + 6, none⟩ = some (.int .i64 y.Value)) ((repeat' apply And.intro) <;> (first | ((repeat (first | assumption | with_reducible refine gro_keeps ?_ _ _ | with_reducible refine alloc_keeps ?_ _ | with_reducible refine drew_keeps ?_)); done) | (simp [go_sem]; done))) (first
            | (go_at_call 87; refine (eqMachine_l (x := x) (y := y) (Ty.up _ bx3 (by repeat (first | with_reducible exact Gro.refl _ | with_reducible exact Gro.refl_drew _ _ _ | with_reducible exact Gro.refl_drewN _ _ _ _ | assumption | with_reducible apply Gro.more | with_reducible apply Gro.alloc | with_reducible apply Gro.drew | with_reducible apply Gro.drewN))) (Ty.up _ bx4 (by repeat (first | with_reducible exact Gro.refl _ | with_reducible exact Gro.refl_drew _ _ _ | with_reducible exact Gro.refl_drewN _ _ _ _ | assumption | with_reducible apply Gro.more | with_reducible apply Gro.alloc | with_reducible apply Gro.drew | with_reducible apply Gro.drewN))) (Ty.up _ by3 (by repeat (first | with_reducible exact Gro.refl _ | with_reducible exact Gro.refl_drew _ _ _ | with_reducible exact Gro.refl_drewN _ _ _ _ | assumption | with_reducible apply Gro.more | with_reducible apply Gro.alloc | with_reducible apply Gro.drew | with_reducible apply Gro.drewN))) (Ty.up _ by4 (by repeat (first | with_reducible exact Gro.refl _ | with_reducible exact Gro.refl_drew _ _ _ | with_reducible exact Gro.refl_drewN _ _ _ _ | assumption | with_reducible apply Gro.more | with_reducible apply Gro.alloc | with_reducible apply Gro.drew | with_reducible apply Gro.drewN)))).mono ?_; rw [HXY.out]; rintro e w1 ⟨rfl, os1, d1, rfl⟩))
          go_wp2
          go_ret
          refine ⟨ret_bool ?_, (by repeat (first | with_reducible exact Gro.refl _ | with_reducible exact Gro.refl_drew _ _ _ | with_reducible exact Gro.refl_drewN _ _ _ _ | assumption | with_reducible apply Gro.more | with_reducible apply Gro.alloc | with_reducible apply Gro.drew | with_reducible apply Gro.drewN))⟩
          symm
          simp only [decide_eq_false_iff_not]
          rintro rfl
          exact hxy (Option.some.inj (HX.out.symm.trans HY.out))
      · go_wp2
        go_ret
        refine ⟨ret_bool ?_, (by repeat (first | with_reducible exact Gro.refl _ | with_reducible exact Gro.refl_drew _ _ _ | with_reducible exact Gro.refl_drewN _ _ _ _ | assumption | with_reducible apply Gro.more | with_reducible apply Gro.alloc | with_reducible apply Gro.drew | with_reducible apply Gro.drewN))⟩
        have : k = xs.length := by omega
        subst this
        have h1 := HT.out
        rw [HL.out] at h1
        simp only [List.take_length] at h1
        rw [← HL.out] at h1
        simp at h1
        simp [h1]
  · have hne : ((xs.length : Int) != (ys.length : Int)) = true := by simp; omega
    go_enter Try.func50, Try.ntmps50
    go_wp2
    go_ret
    exact ⟨ret_bool (by symm; simp only [decide_eq_false_iff_not]; rintro rfl; exact hl rfl), Gro.refl _⟩
set_option maxRecDepth 100000 in
set_option maxHeartbeats 4000000 in
theorem markMachineS_l {xs : List DMachine} {w : World} {A : Option Addr} {n c : Nat} {k : Int} {S : List Nat} (hO : (tMachine.sl 80).O w [.slice A n c] xs S) (hS : S.Nodup) (h0 : 0 < k) (h1 : k + (cntMachineS xs : Nat) ≤ 1099511627776) :
    Calls Try.prog 61 #[.slice A n c, .int .i64 k] w fun e w' => e = .returned (.int .i64 (k + (cntMachineS xs : Nat))) ∧ (tMachine.sl 80).O w' [.slice A n c] (mkMachineS xs k) S ∧ OnlyS S w w' := by
  obtain ⟨_, _, hx, h2, h3⟩ := sl_at (Ty.read _ hO)
  injection hx with hA hn hc
  subst hA hn hc
  have h3c := h3
  clear h3
  unfold cntMachineS at h1 ⊢
  go_enter Try.func61, Try.ntmps61
  go_wp2_with (fail)
  go_loopw [1, 5] (fun a i wr => ∃ (j q : Nat), j ≤ xs.length ∧ a = .int .i64 (k + q) ∧ i = .int .i64 j ∧ Hid (cntL cntEMachine (xs.take j) = q) ∧ Hid ((tMachine.sl 80).O wr [.slice A xs.length c] (mkTo mkEMachine cntEMachine xs k j) S) ∧ Hid (OnlyS S w wr)) (fun _ i _ => xs.length - (intOf i).toNat)
  case atStart => exact ⟨0, 0, Nat.zero_le _, by simp, rfl, Lib.hid (by simp [cntL]), Lib.hid (by rw [mkTo_zero]; exact hO), OnlyS.refl _ _⟩
  case round =>
    obtain ⟨j, q, hj, rfl, rfl, hq, ho, hs⟩ := hrel
    by_cases hlt : j < xs.length
    · have hxj : xs[j]? = some xs[j] := List.getElem?_eq_getElem hlt
      obtain ⟨g, ec, Sc, cur, rfl, hgS, hgl, hgc, hSc, hNc, hO1, hb, hcs, hcell, hset⟩ := own_mix ho.out hS (mkTo_get hxj k)
      generalize hxe : xs[j] = x at hxj hO1
      clear hxe
      have hqs : q + cntEMachine x ≤ cntL cntEMachine xs := by
        have := cntL_snoc (cnt := cntEMachine) hxj
        have h9 := cntL_take_le (cnt := cntEMachine) xs (j + 1)
        have := hq.out
        omega
      have hq2 := Lib.hid (show cntL cntEMachine (xs.take (j + 1)) = q + cntEMachine x from by rw [cntL_snoc hxj, hq.out])
      rw [cntEMachine_eq] at hqs
      obtain ⟨A0, c0, S0, A1, c1, S1, hcl, rfl, _, _, _, hO0, hO1, _, _⟩ := tMachine_O hO1
      subst hcl
      have hr0 := hcell 0 _ rfl
      have hr1 := hcell 1 _ rfl
      have hr2 := hcell 2 _ rfl
      have hr3 := hcell 3 _ rfl
      have hr4 := hcell 4 _ rfl
      have hr5 := hcell 5 _ rfl
      have hr6 := hcell 6 _ rfl
      simp only [Nat.add_zero, show tMachine.size = 7 from rfl] at hcs hset hr0 hr1 hr2 hr3 hr4 hr5 hr6
      have hc0 : wr.cell? ⟨g, j * 7, none⟩ = some (.int .i64 x.Pc) := (cell_of_row wr g _ cur _ (0, 0) hb).trans hr0
      have hc1 : wr.cell? ⟨g, j * 7 + 1, none⟩ = some (.int .i64 x.Sp) := (cell_of_row wr g _ cur _ (0, 0) hb).trans hr1
      have hc2 : wr.cell? ⟨g, j * 7 + 2, none⟩ = some (.int .i64 x.Fp) := (cell_of_row wr g _ cur _ (0, 0) hb).trans hr2
      have hc3 : wr.cell? ⟨g, j * 7 + 3, none⟩ = some (.slice A0 x.Stack.length c0) := (cell_of_row wr g _ cur _ (0, 0) hb).trans hr3
      have hc4 : wr.cell? ⟨g, j * 7 + 4, none⟩ = some (.slice A1 x.Out.length c1) := (cell_of_row wr g _ cur _ (0, 0) hb).trans hr4
      have hc5 : wr.cell? ⟨g, j * 7 + 5, none⟩ = some (.int .i64 x.State) := (cell_of_row wr g _ cur _ (0, 0) hb).trans hr5
      have hc6 : wr.cell? ⟨g, j * 7 + 6, none⟩ = some (.int .i64 x.Value) := (cell_of_row wr g _ cur _ (0, 0) hb).trans hr6
      have hf0 := frz_blk hb (j * 7)
      have hf1 := frz_blk hb (j * 7 + 1)
      have hf2 := frz_blk hb (j * 7 + 2)
      have hf3 := frz_blk hb (j * 7 + 3)
      have hf4 := frz_blk hb (j * 7 + 4)
      have hf5 := frz_blk hb (j * 7 + 5)
      have hf6 := frz_blk hb (j * 7 + 6)
      have HX := Lib.hid hxj
      have HS := Lib.hid hset
      obtain ⟨hN0, hN1, hD01, hD10⟩ := nd2 hNc
      clear hcell hset hxj hO hO1
      have hL0 := Ty.ltO _ hO0
      have hg0 : g ∉ S0 := fun hm => hgc (by simp [hm])
      have hL1 := Ty.ltO _ hO1
      have hg1 : g ∉ S1 := fun hm => hgc (by simp [hm])
      go_wp2_with (fail)
      refine (markIntS_l (xs := x.Stack) (keepS _ hO0 ((((OnlyS.refl [g] wr).setCell (p := ⟨g, _, none⟩) (by simp) _).setCell (p := ⟨g, _, none⟩) (by simp) _).setCell (p := ⟨g, _, none⟩) (by simp) _) (not_one hg0)) hN0 (by omega) (by omega)).mono ?_
      rintro e w1 ⟨rfl, hM0, hs1⟩
      have hb1 : w1.heap[g]? = some (.cells (((cur.setIfInBounds (j * 7) (.int .i64 (k + (q : Int)))).setIfInBounds (j * 7 + 1) (.int .i64 (k + (q : Int) + 1))).setIfInBounds (j * 7 + 2) (.int .i64 (k + (q : Int) + 1 + 1))) _ (0, 0)) := (hs1.block g (Nat.lt_of_lt_of_le hgl (((((OnlyS.refl [g] wr).setCell (p := ⟨g, _, none⟩) (by simp) _).setCell (p := ⟨g, _, none⟩) (by simp) _).setCell (p := ⟨g, _, none⟩) (by simp) _)).size) hg0).trans (heap_setCell_at (heap_setCell_at (heap_setCell_at hb _ _) _ _) _ _)
      have hon1 : OnlyS ([g] ++ S0) wr w1 := (((((OnlyS.refl [g] wr).setCell (p := ⟨g, _, none⟩) (by simp) _).setCell (p := ⟨g, _, none⟩) (by simp) _).setCell (p := ⟨g, _, none⟩) (by simp) _).mono (fun b hb => by simp at hb; simp [hb])).trans (hs1.mono (fun b hb => by simp [hb]))
      have hK1_0 := keepS _ (keepS _ hO1 ((((OnlyS.refl [g] wr).setCell (p := ⟨g, _, none⟩) (by simp) _).setCell (p := ⟨g, _, none⟩) (by simp) _).setCell (p := ⟨g, _, none⟩) (by simp) _) (not_one hg1)) hs1 hD10
      obtain ⟨cur1, he1⟩ : ∃ c, (((cur.setIfInBounds (j * 7) (.int .i64 (k + (q : Int)))).setIfInBounds (j * 7 + 1) (.int .i64 (k + (q : Int) + 1))).setIfInBounds (j * 7 + 2) (.int .i64 (k + (q : Int) + 1 + 1))) = c := ⟨_, rfl⟩
      rw [he1] at hb1
      have hr1_0 : cur1[j * 7]? = some (.int .i64 (k + (q : Int))) := by rw [← he1]; rw [Array.getElem?_setIfInBounds_ne (by omega)]; rw [Array.getElem?_setIfInBounds_ne (by omega)]; exact Array.getElem?_setIfInBounds_self_of_lt (by (try simp only [Array.size_setIfInBounds]); omega)
      have hc1_0 : w1.cell? ⟨g, j * 7, none⟩ = some (.int .i64 (k + (q : Int))) := (cell_of_row w1 g _ cur1 _ (0, 0) hb1).trans hr1_0
      have hf1_0 := frz_blk hb1 (j * 7)
      have hr1_1 : cur1[j * 7 + 1]? = some (.int .i64 (k + (q : Int) + 1)) := by rw [← he1]; rw [Array.getElem?_setIfInBounds_ne (by omega)]; exact Array.getElem?_setIfInBounds_self_of_lt (by (try simp only [Array.size_setIfInBounds]); omega)
      have hc1_1 : w1.cell? ⟨g, j * 7 + 1, none⟩ = some (.int .i64 (k + (q : Int) + 1)) := (cell_of_row w1 g _ cur1 _ (0, 0) hb1).trans hr1_1
      have hf1_1 := frz_blk hb1 (j * 7 + 1)
      have hr1_2 : cur1[j * 7 + 2]? = some (.int .i64 (k + (q : Int) + 1 + 1)) := by rw [← he1]; exact Array.getElem?_setIfInBounds_self_of_lt (by (try simp only [Array.size_setIfInBounds]); omega)
      have hc1_2 : w1.cell? ⟨g, j * 7 + 2, none⟩ = some (.int .i64 (k + (q : Int) + 1 + 1)) := (cell_of_row w1 g _ cur1 _ (0, 0) hb1).trans hr1_2
      have hf1_2 := frz_blk hb1 (j * 7 + 2)
      have hr1_3 : cur1[j * 7 + 3]? = some (.slice A0 x.Stack.length c0) := by rw [← he1]; rw [Array.getElem?_setIfInBounds_ne (by omega)]; rw [Array.getElem?_setIfInBounds_ne (by omega)]; rw [Array.getElem?_setIfInBounds_ne (by omega)]; exact hr3
      have hc1_3 : w1.cell? ⟨g, j * 7 + 3, none⟩ = some (.slice A0 x.Stack.length c0) := (cell_of_row w1 g _ cur1 _ (0, 0) hb1).trans hr1_3
      have hf1_3 := frz_blk hb1 (j * 7 + 3)
      have hr1_4 : cur1[j * 7 + 4]? = some (.slice A1 x.Out.length c1) := by rw [← he1]; rw [Array.getElem?_setIfInBounds_ne (by omega)]; rw [Array.getElem?_setIfInBounds_ne (by omega)]; rw [Array.getElem?_setIfInBounds_ne (by omega)]; exact hr4
      have hc1_4 : w1.cell? ⟨g, j * 7 + 4, none⟩ = some (.slice A1 x.Out.length c1) := (cell_of_row w1 g _ cur1 _ (0, 0) hb1).trans hr1_4
      have hf1_4 := frz_blk hb1 (j * 7 + 4)
      have hr1_5 : cur1[j * 7 + 5]? = some (.int .i64 x.State) := by rw [← he1]; rw [Array.getElem?_setIfInBounds_ne (by omega)]; rw [Array.getElem?_setIfInBounds_ne (by omega)]; rw [Array.getElem?_setIfInBounds_ne (by omega)]; exact hr5
      have hc1_5 : w1.cell? ⟨g, j * 7 + 5, none⟩ = some (.int .i64 x.State) := (cell_of_row w1 g _ cur1 _ (0, 0) hb1).trans hr1_5
      have hf1_5 := frz_blk hb1 (j * 7 + 5)
      have hr1_6 : cur1[j * 7 + 6]? = some (.int .i64 x.Value) := by rw [← he1]; rw [Array.getElem?_setIfInBounds_ne (by omega)]; rw [Array.getElem?_setIfInBounds_ne (by omega)]; rw [Array.getElem?_setIfInBounds_ne (by omega)]; exact hr6
      have hc1_6 : w1.cell? ⟨g, j * 7 + 6, none⟩ = some (.int .i64 x.Value) := (cell_of_row w1 g _ cur1 _ (0, 0) hb1).trans hr1_6
      have hf1_6 := frz_blk hb1 (j * 7 + 6)
      have hz1 : cur1.size = cur.size := by (first | (rw [← he1]; done) | (rw [← he1]; simp only [Array.size_setIfInBounds]))
      have ho1 : ∀ i, i < j * 7 ∨ j * 7 + 7 ≤ i → cur1[i]? = cur[i]? := fun i hi => by rw [← he1]; rw [Array.getElem?_setIfInBounds_ne (by omega)]; rw [Array.getElem?_setIfInBounds_ne (by omega)]; rw [Array.getElem?_setIfInBounds_ne (by omega)]
      have HE1 := Lib.hid he1
      clear he1
      have hgl1 : g < w1.heap.size := Nat.lt_of_lt_of_le hgl hon1.size
      clear hc0 hf0 hc1 hf1 hc2 hf2 hc3 hf3 hc4 hf4 hc5 hf5 hc6 hf6
      go_wp2_with (fail)
      refine (markIntS_l (xs := x.Out) (keepS _ hK1_0 (OnlyS.refl [g] w1) (not_one hg1)) hN1 (by omega) (by omega)).mono ?_
      rintro e w2 ⟨rfl, hM1, hs2⟩
      have hb2 : w2.heap[g]? = some (.cells cur1 _ (0, 0)) := (hs2.block g (Nat.lt_of_lt_of_le hgl1 ((OnlyS.refl [g] w1)).size) hg1).trans hb1
      have hon2 : OnlyS ([g] ++ S1) w1 w2 := ((OnlyS.refl [g] w1).mono (fun b hb => by simp at hb; simp [hb])).trans (hs2.mono (fun b hb => by simp [hb]))
      have hK0_1 := keepS _ (keepS _ hM0 (OnlyS.refl [g] w1) (not_one hg0)) hs2 hD01
      replace hM0 := hK0_1
      obtain ⟨cur2, he2⟩ : ∃ c, cur1 = c := ⟨_, rfl⟩
      rw [he2] at hb2
      have hr2_0 : cur2[j * 7]? = some (.int .i64 (k + (q : Int))) := by rw [← he2]; exact hr1_0
      have hc2_0 : w2.cell? ⟨g, j * 7, none⟩ = some (.int .i64 (k + (q : Int))) := (cell_of_row w2 g _ cur2 _ (0, 0) hb2).trans hr2_0
      have hf2_0 := frz_blk hb2 (j * 7)
      have hr2_1 : cur2[j * 7 + 1]? = some (.int .i64 (k + (q : Int) + 1)) := by rw [← he2]; exact hr1_1
      have hc2_1 : w2.cell? ⟨g, j * 7 + 1, none⟩ = some (.int .i64 (k + (q : Int) + 1)) := (cell_of_row w2 g _ cur2 _ (0, 0) hb2).trans hr2_1
      have hf2_1 := frz_blk hb2 (j * 7 + 1)
      have hr2_2 : cur2[j * 7 + 2]? = some (.int .i64 (k + (q : Int) + 1 + 1)) := by rw [← he2]; exact hr1_2
      have hc2_2 : w2.cell? ⟨g, j * 7 + 2, none⟩ = some (.int .i64 (k + (q : Int) + 1 + 1)) := (cell_of_row w2 g _ cur2 _ (0, 0) hb2).trans hr2_2
      have hf2_2 := frz_blk hb2 (j * 7 + 2)
      have hr2_3 : cur2[j * 7 + 3]? = some (.slice A0 x.Stack.length c0) := by rw [← he2]; exact hr1_3
      have hc2_3 : w2.cell? ⟨g, j * 7 + 3, none⟩ = some (.slice A0 x.Stack.length c0) := (cell_of_row w2 g _ cur2 _ (0, 0) hb2).trans hr2_3
      have hf2_3 := frz_blk hb2 (j * 7 + 3)
      have hr2_4 : cur2[j * 7 + 4]? = some (.slice A1 x.Out.length c1) := by rw [← he2]; exact hr1_4
      have hc2_4 : w2.cell? ⟨g, j * 7 + 4, none⟩ = some (.slice A1 x.Out.length c1) := (cell_of_row w2 g _ cur2 _ (0, 0) hb2).trans hr2_4
      have hf2_4 := frz_blk hb2 (j * 7 + 4)
      have hr2_5 : cur2[j * 7 + 5]? = some (.int .i64 x.State) := by rw [← he2]; exact hr1_5
      have hc2_5 : w2.cell? ⟨g, j * 7 + 5, none⟩ = some (.int .i64 x.State) := (cell_of_row w2 g _ cur2 _ (0, 0) hb2).trans hr2_5
      have hf2_5 := frz_blk hb2 (j * 7 + 5)
      have hr2_6 : cur2[j * 7 + 6]? = some (.int .i64 x.Value) := by rw [← he2]; exact hr1_6
      have hc2_6 : w2.cell? ⟨g, j * 7 + 6, none⟩ = some (.int .i64 x.Value) := (cell_of_row w2 g _ cur2 _ (0, 0) hb2).trans hr2_6
      have hf2_6 := frz_blk hb2 (j * 7 + 6)
      have hz2 : cur2.size = cur1.size := by (first | (rw [← he2]; done) | (rw [← he2]; simp only [Array.size_setIfInBounds]))
      have ho2 : ∀ i, i < j * 7 ∨ j * 7 + 7 ≤ i → cur2[i]? = cur1[i]? := fun i hi => by rw [← he2]
      have HE2 := Lib.hid he2
      clear he2
      have hgl2 : g < w2.heap.size := Nat.lt_of_lt_of_le hgl1 hon2.size
      clear hc1_0 hf1_0 hc1_1 hf1_1 hc1_2 hf1_2 hc1_3 hf1_3 hc1_4 hf1_4 hc1_5 hf1_5 hc1_6 hf1_6
      go_wp2_with (fail)
      go_roundw
      case rel =>
        have e := mkTo_set (mk := mkEMachine) (cnt := cntEMachine) HX.out k
        rw [hq.out] at e
        refine ⟨j + 1, q + cntEMachine x, by omega, ?_, by go_num, hq2, Lib.hid ?_, Lib.hid ?_⟩
        · exact congrArg (Value.int .i64) (by rw [cntEMachine_eq]; push_cast; omega)
        · rw [← e]
          have hOO : ∀ W, OnlyS [g] w2 W → tMachine.O W [.int .i64 (k + (q : Int)), .int .i64 (k + (q : Int) + 1), .int .i64 (k + (q : Int) + 1 + 1), .slice A0 x.Stack.length c0, .slice A1 x.Out.length c1, .int .i64 (k + (q : Int) + 1 + 1 + 1 + (x.Stack.length : Nat) + (x.Out.length : Nat)), .int .i64 (k + (q : Int) + 1 + 1 + 1 + (x.Stack.length : Nat) + (x.Out.length : Nat) + 1)] (mkEMachine x (k + (q : Int))) (S0 ++ S1) := fun W hW => by
            have h := (tMachine_mkOd (x := (mkEMachine x (k + (q : Int)))) ⟨by simp only [mkEMachine]; omega, by simp only [mkEMachine]; omega⟩ ⟨by simp only [mkEMachine]; omega, by simp only [mkEMachine]; omega⟩ ⟨by simp only [mkEMachine]; omega, by simp only [mkEMachine]; omega⟩ (keepS _ (by simpa [mkEMachine, mkInts_length] using hM0) hW (not_one hg0)) (keepS _ (by simpa [mkEMachine, mkInts_length] using hM1) hW (not_one hg1)) ⟨by simp only [mkEMachine]; omega, by simp only [mkEMachine]; omega⟩ ⟨by simp only [mkEMachine]; omega, by simp only [mkEMachine]; omega⟩)
            simpa [mkEMachine, mkInts_length] using h
          refine HS.out _ _ _ _ (hOO _ (((OnlyS.refl [g] w2).setCell (p := ⟨g, _, none⟩) (by simp) _).setCell (p := ⟨g, _, none⟩) (by simp) _)) (heap_setCell_at (heap_setCell_at hb2 _ _) _ _) ?_ ?_ ?_ ?_
          · simp only [Array.size_setIfInBounds, hz2, hz1]
          · intro i hi
            rw [Array.getElem?_setIfInBounds_ne (by omega)]; rw [Array.getElem?_setIfInBounds_ne (by omega)]; rw [ho2 i hi]; rw [ho1 i hi]
          · intro t u hu
            exact match t, hu with
            | 0, hu => by
              cases hu
              rw [Array.getElem?_setIfInBounds_ne (by omega)]; rw [Array.getElem?_setIfInBounds_ne (by omega)]; exact hr2_0
            | 1, hu => by
              cases hu
              rw [Array.getElem?_setIfInBounds_ne (by omega)]; rw [Array.getElem?_setIfInBounds_ne (by omega)]; exact hr2_1
            | 2, hu => by
              cases hu
              rw [Array.getElem?_setIfInBounds_ne (by omega)]; rw [Array.getElem?_setIfInBounds_ne (by omega)]; exact hr2_2
            | 3, hu => by
              cases hu
              rw [Array.getElem?_setIfInBounds_ne (by omega)]; rw [Array.getElem?_setIfInBounds_ne (by omega)]; exact hr2_3
            | 4, hu => by
              cases hu
              rw [Array.getElem?_setIfInBounds_ne (by omega)]; rw [Array.getElem?_setIfInBounds_ne (by omega)]; exact hr2_4
            | 5, hu => by
              cases hu
              rw [Array.getElem?_setIfInBounds_ne (by omega)]; exact Array.getElem?_setIfInBounds_self_of_lt (by (try simp only [Array.size_setIfInBounds]); omega)
            | 6, hu => by
              cases hu
              exact Array.getElem?_setIfInBounds_self_of_lt (by (try simp only [Array.size_setIfInBounds]); omega)
            | t + 7, hu => by simp at hu
          · exact (((hon1.mono (fun b hb => by simp at hb ⊢; rcases hb with h | h <;> simp [h])).trans (hon2.mono (fun b hb => by simp at hb ⊢; rcases hb with h | h <;> simp [h]))).trans ((((OnlyS.refl [g] w2).setCell (p := ⟨g, _, none⟩) (by simp) _).setCell (p := ⟨g, _, none⟩) (by simp) _).mono (fun b hb => by simp at hb; simp [hb])))
        · exact hs.out.trans (((((hon1.mono (fun b hb => by simp at hb ⊢; rcases hb with h | h <;> simp [h])).trans (hon2.mono (fun b hb => by simp at hb ⊢; rcases hb with h | h <;> simp [h]))).trans ((((OnlyS.refl [g] w2).setCell (p := ⟨g, _, none⟩) (by simp) _).setCell (p := ⟨g, _, none⟩) (by simp) _).mono (fun b hb => by simp at hb; simp [hb]))) : OnlyS (g :: (S0 ++ S1)) wr _).mono (fun b hb => by
            rcases List.mem_cons.1 hb with rfl | hb
            · exact hgS
            · exact hSc b (by simpa using hb)))
      case measure => simp [intOf]; omega
    · go_wp2
      have : j = xs.length := by omega
      subst this
      have ho' := ho.out
      rw [mkTo_all] at ho'
      have hq' := hq.out
      rw [List.take_length] at hq'
      go_ret
      exact ⟨ret_int (by rw [hq']), ho', hs.out⟩
set_option maxRecDepth 100000 in
set_option maxHeartbeats 4000000 in
theorem heldMachineS_l {xs : List DMachine} {w : World} {v : Value} {k : Int} (hx : (tMachine.sl 80).R w w.heap.size [v] (mkMachineS xs k)) (h0 : 0 < k) (h1 : k + (cntMachineS xs : Nat) ≤ 1099511627776) :
    Calls Try.prog 63 #[v, .int .i64 k] w fun e w' => e = .returned (.int .i64 (k + (cntMachineS xs : Nat))) ∧ Gro w w' := by
  obtain ⟨A, c, rfl, h2, h3⟩ := sl_at hx
  have hlen : (mkMachineS xs k).length = xs.length := mkL_length _ _
  rw [hlen] at h2 hx ⊢
  have HL := Lib.hid hlen
  clear hlen
  unfold cntMachineS at h1 ⊢
  go_enter Try.func63, Try.ntmps63
  go_wp2_with (fail)
  go_loopw [1, 5] (fun a i wr => ∃ (j q : Nat), j ≤ xs.length ∧ a = .int .i64 (k + q) ∧ i = .int .i64 j ∧ Hid (cntL cntEMachine (xs.take j) = q) ∧ Hid (Gro w wr)) (fun _ i _ => xs.length - (intOf i).toNat)
  case atStart => exact ⟨0, 0, Nat.zero_le _, by simp, rfl, Lib.hid (by simp [cntL]), Lib.hid (Gro.refl _)⟩
  case round =>
    obtain ⟨j, q, hj, rfl, rfl, hq, hG⟩ := hrel
    obtain ⟨os, d, rfl⟩ := hG.out
    clear hG
    by_cases hlt : j < xs.length
    · obtain ⟨g, off, y, A0, c0, A1, c1, rfl, hgb, hxk, hx0, hx1, hx2, hx3, hx4, hx5, hx6, bx0, bx1, bx2, bx3, bx4, bx5, bx6⟩ := atMachine hx (k := j) (by rw [HL.out]; exact hlt)
      have hxj : xs[j]? = some xs[j] := List.getElem?_eq_getElem hlt
      generalize hxe : xs[j] = x at hxj
      clear hxe
      have hye : y = mkEMachine x (k + (q : Int)) := by
        have := mkL_get (mk := mkEMachine) (cnt := cntEMachine) hxj k
        rw [hq.out] at this
        exact Option.some.inj (hxk.symm.trans this)
      have hqs : q + cntEMachine x ≤ cntL cntEMachine xs := by
        have := cntL_snoc (cnt := cntEMachine) hxj
        have h9 := cntL_take_le (cnt := cntEMachine) xs (j + 1)
        have := hq.out
        omega
      have hq2 := Lib.hid (show cntL cntEMachine (xs.take (j + 1)) = q + cntEMachine x from by rw [cntL_snoc hxj, hq.out])
      rw [cntEMachine_eq] at hqs
      clear hxk hx hxj
      subst hye
      simp only [mkEMachine, mkInts_length] at hx0 hx1 hx2 hx3 hx4 hx5 hx6 bx3 bx4
      go_wp2_with (fail)
      refine (heldIntS_l (xs := x.Stack) (Nat.le_refl _) (Ty.up _ bx3 (by repeat (first | with_reducible exact Gro.refl _ | with_reducible exact Gro.refl_drew _ _ _ | with_reducible exact Gro.refl_drewN _ _ _ _ | assumption | with_reducible apply Gro.more | with_reducible apply Gro.alloc | with_reducible apply Gro.drew | with_reducible apply Gro.drewN))) (by omega) (by omega)).mono ?_
      rintro e w1 ⟨rfl, os1, d1, rfl⟩
      go_wp2_with (fail)
      refine (heldIntS_l (xs := x.Out) (Nat.le_refl _) (Ty.up _ bx4 (by repeat (first | with_reducible exact Gro.refl _ | with_reducible exact Gro.refl_drew _ _ _ | with_reducible exact Gro.refl_drewN _ _ _ _ | assumption | with_reducible apply Gro.more | with_reducible apply Gro.alloc | with_reducible apply Gro.drew | with_reducible apply Gro.drewN))) (by omega) (by omega)).mono ?_
      rintro e w2 ⟨rfl, os2, d2, rfl⟩
      go_wp2_with (fail)
      go_roundw
      case rel =>
        refine ⟨j + 1, q + cntEMachine x, by omega, ?_, by go_num, hq2, Lib.hid (by repeat (first | with_reducible exact Gro.refl _ | with_reducible exact Gro.refl_drew _ _ _ | with_reducible exact Gro.refl_drewN _ _ _ _ | assumption | with_reducible apply Gro.more | with_reducible apply Gro.alloc | with_reducible apply Gro.drew | with_reducible apply Gro.drewN))⟩
        exact congrArg (Value.int .i64) (by rw [cntEMachine_eq]; push_cast; omega)
      case measure => simp [intOf]; omega
    · go_wp2
      have : j = xs.length := by omega
      subst this
      have hq' := hq.out
      rw [List.take_length] at hq'
      go_ret
      exact ⟨ret_int (by rw [hq']), (by repeat (first | with_reducible exact Gro.refl _ | with_reducible exact Gro.refl_drew _ _ _ | with_reducible exact Gro.refl_drewN _ _ _ _ | assumption | with_reducible apply Gro.more | with_reducible apply Gro.alloc | with_reducible apply Gro.drew | with_reducible apply Gro.drewN))⟩
end Go.Proofs.Ytfhcegblnhagjaa
