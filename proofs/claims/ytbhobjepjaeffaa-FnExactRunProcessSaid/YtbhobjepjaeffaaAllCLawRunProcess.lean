/-
  PART 3 of the texts of this claim, one behind the other: contracts and laws that the last part uses.
-/
import Derived.Test.YtbhobjepjaeffaaAllBLawRunProcess
import Derived.OrdersHeld
import Derived.StillTailTactics
import Derived.Deep.AppendSrc
import Derived.Deep.MidRow
import Derived.Laws.IdiomStrings
import Derived.Deep.RegionLaw
import Derived.Deep.LoopGhost
set_option linter.unusedVariables false
set_option linter.unusedSimpArgs false
namespace Go.Proofs.Ytbhobjepjaeffaa
open Go.RowKit
theorem atMachine {e : TypeId} {w : World} {B : Nat} {A : Option Addr} {n c : Nat} {xs : List DMachine} (h : (tMachine.sl e).R w B [.slice A n c] xs) {k : Nat} (hk : k < xs.length) :
    ∃ g off x A0 c0 A1 c1, A = some ⟨g, off, none⟩ ∧ g < B ∧ xs[k]? = some x ∧ w.cell? ⟨g, off + k * 7, none⟩ = some (.int .i64 x.Pc) ∧ w.cell? ⟨g, off + k * 7 + 1, none⟩ = some (.int .i64 x.Sp) ∧ w.cell? ⟨g, off + k * 7 + 2, none⟩ = some (.int .i64 x.Fp) ∧ w.cell? ⟨g, off + k * 7 + 3, none⟩ = some (.slice A0 x.Stack.length c0) ∧ w.cell? ⟨g, off + k * 7 + 4, none⟩ = some (.slice A1 x.Out.length c1) ∧ w.cell? ⟨g, off + k * 7 + 5, none⟩ = some (.int .i64 x.State) ∧ w.cell? ⟨g, off + k * 7 + 6, none⟩ = some (.int .i64 x.Value) ∧ I64 x.Pc ∧ I64 x.Sp ∧ I64 x.Fp ∧ (intT.sl 3).R w B [.slice A0 x.Stack.length c0] x.Stack ∧ (intT.sl 3).R w B [.slice A1 x.Out.length c1] x.Out ∧ I64 x.State ∧ I64 x.Value := by
  obtain ⟨g, off, x, ec, h1, hB, h2, h3, h4⟩ := elem_at h hk
  obtain ⟨A0, c0, A1, c1, rfl, hf⟩ := tMachine_R h3
  exact ⟨g, off, x, A0, c0, A1, c1, h1, hB, h2, h4 0 _ rfl, h4 1 _ rfl, h4 2 _ rfl, h4 3 _ rfl, h4 4 _ rfl, h4 5 _ rfl, h4 6 _ rfl, hf⟩
def mkEMachine (x : DMachine) (k : Int) : DMachine := ⟨k, k + 1, k + 1 + 1, mkInts x.Stack (k + 1 + 1 + 1), mkInts x.Out (k + 1 + 1 + 1 + (x.Stack.length : Nat)), k + 1 + 1 + 1 + (x.Stack.length : Nat) + (x.Out.length : Nat), k + 1 + 1 + 1 + (x.Stack.length : Nat) + (x.Out.length : Nat) + 1⟩
def cntEMachine (x : DMachine) : Nat := 5 + x.Stack.length + x.Out.length
def mkMachineS (xs : List DMachine) (k : Int) : List DMachine := mkL mkEMachine cntEMachine xs k
def cntMachineS (xs : List DMachine) : Nat := cntL cntEMachine xs
theorem mkMachineS_length (xs : List DMachine) (k : Int) : (mkMachineS xs k).length = xs.length := mkL_length _ _
theorem cntEMachine_eq (x : DMachine) : cntEMachine x = 5 + x.Stack.length + x.Out.length := rfl
theorem toMachineS_info : (Try.prog.info? 80).map (fun i => (i.zero, i.size, i.bytes)) = some (some (.agg #[.int .i64 0, .int .i64 0, .int .i64 0, .slice none 0 0, .slice none 0 0, .int .i64 0, .int .i64 0]), 7, 88) := by kernel_rfl
theorem elMachine : Elem Try.prog 34 80 tMachine 88 := by
  obtain ⟨i0, hi, hz0, hz1, hz2⟩ := info_parts toMachineS_info
  exact ⟨Try.underlying34, ⟨i0, _, hi, hz0, hz1, hz2, rfl⟩, by decide⟩
set_option maxRecDepth 100000 in
theorem szMachineS_l {xs : List DMachine} {w : World} {v : Value} {left : Int} (hx : (tMachine.sl 80).R w w.heap.size [v] xs) (h0 : 0 ≤ left) (h1 : left ≤ 1099511627776) :
    Calls Try.prog 42 #[v, .int .i64 left] w fun e w' => e = .returned (.int .i64 (szRes left (szL szMachine xs))) ∧ Gro w w' := by
  obtain ⟨A, c, rfl, h2, h3⟩ := sl_at hx
  by_cases h : (xs.length : Int) ≤ left
  · go_enter Try.func42, Try.ntmps42
    go_wp2_with (fail)
    go_loopw [1, 5] (fun a i wr => ∃ (j s : Nat), j ≤ xs.length ∧ Hid (s = ((xs.take j).map szMachine).sum) ∧ (xs.length : Int) + s ≤ left ∧ a = .int .i64 (left - xs.length - s) ∧ i = .int .i64 j ∧ Hid (Gro w wr)) (fun _ i _ => xs.length - (intOf i).toNat)
    case atStart => exact ⟨0, 0, Nat.zero_le _, rfl, by omega, by simp, rfl, Gro.refl _⟩
    case round =>
      obtain ⟨j, s, hj, hs, hle, rfl, rfl, hG⟩ := hrel
      obtain ⟨os, d, rfl⟩ := hG.out
      clear hG
      by_cases hlt : j < xs.length
      · obtain ⟨g, off, x, A0, c0, A1, c1, rfl, hgb, hxk, hx0, hx1, hx2, hx3, hx4, hx5, hx6, bx0, bx1, bx2, bx3, bx4, bx5, bx6⟩ := atMachine hx hlt
        have HX := Lib.hid (szSnoc szMachine hxk)
        have HM := Lib.hid (szLe szMachine xs (j + 1))
        obtain ⟨n0, hn0⟩ : ∃ n, szMachine x = n := ⟨_, rfl⟩
        have HN := Lib.hid hn0
        clear hxk hx hn0
        by_cases hsz : (xs.length : Int) + s + n0 ≤ left
        · have HR := Lib.hid (show szRes (left - xs.length - s) n0 = left - xs.length - s - n0 from if_pos (by omega))
          go_wp2_with (go_at_call 80; refine (szMachine_l (x := x) (Ty.up _ bx3 (by repeat (first | with_reducible exact Gro.refl _ | with_reducible exact Gro.refl_drew _ _ _ | with_reducible exact Gro.refl_drewN _ _ _ _ | assumption | with_reducible apply Gro.more | with_reducible apply Gro.alloc | with_reducible apply Gro.drew | with_reducible apply Gro.drewN))) (Ty.up _ bx4 (by repeat (first | with_reducible exact Gro.refl _ | with_reducible exact Gro.refl_drew _ _ _ | with_reducible exact Gro.refl_drewN _ _ _ _ | assumption | with_reducible apply Gro.more | with_reducible apply Gro.alloc | with_reducible apply Gro.drew | with_reducible apply Gro.drewN))) (by omega) (by omega)).mono ?_; rw [HN.out, HR.out]; rintro e w1 ⟨rfl, os1, d1, rfl⟩)
          go_roundw
          case rel => exact ⟨j + 1, s + n0, by omega, Lib.hid (by rw [hs.out, HX.out, HN.out]), by omega, by go_num, by go_num, Lib.hid (by repeat (first | with_reducible exact Gro.refl _ | with_reducible exact Gro.refl_drew _ _ _ | with_reducible exact Gro.refl_drewN _ _ _ _ | assumption | with_reducible apply Gro.more | with_reducible apply Gro.alloc | with_reducible apply Gro.drew | with_reducible apply Gro.drewN))⟩
          case measure => simp [intOf]; omega
        · have HR := Lib.hid (show szRes (left - xs.length - s) n0 = -1 from if_neg (by omega))
          have HQ := Lib.hid (show szRes left (szL szMachine xs) = -1 from if_neg (by have h1 := HX.out; have h2 := HM.out; have h3 := hs.out; have h4 := HN.out; unfold szL; omega))
          go_wp2_with (go_at_call 80; refine (szMachine_l (x := x) (Ty.up _ bx3 (by repeat (first | with_reducible exact Gro.refl _ | with_reducible exact Gro.refl_drew _ _ _ | with_reducible exact Gro.refl_drewN _ _ _ _ | assumption | with_reducible apply Gro.more | with_reducible apply Gro.alloc | with_reducible apply Gro.drew | with_reducible apply Gro.drewN))) (Ty.up _ bx4 (by repeat (first | with_reducible exact Gro.refl _ | with_reducible exact Gro.refl_drew _ _ _ | with_reducible exact Gro.refl_drewN _ _ _ _ | assumption | with_reducible apply Gro.more | with_reducible apply Gro.alloc | with_reducible apply Gro.drew | with_reducible apply Gro.drewN))) (by omega) (by omega)).mono ?_; rw [HN.out, HR.out]; rintro e w1 ⟨rfl, os1, d1, rfl⟩)
          go_ret
          exact ⟨ret_int HQ.out.symm, (by repeat (first | with_reducible exact Gro.refl _ | with_reducible exact Gro.refl_drew _ _ _ | with_reducible exact Gro.refl_drewN _ _ _ _ | assumption | with_reducible apply Gro.more | with_reducible apply Gro.alloc | with_reducible apply Gro.drew | with_reducible apply Gro.drewN))⟩
      · go_wp2
        go_ret
        exact ⟨ret_int (by
          have h3 := hs.out
          rw [szAll szMachine (show j = xs.length by omega)] at h3
          unfold szRes szL
          rw [if_pos (by omega)]
          omega), (by repeat (first | with_reducible exact Gro.refl _ | with_reducible exact Gro.refl_drew _ _ _ | with_reducible exact Gro.refl_drewN _ _ _ _ | assumption | with_reducible apply Gro.more | with_reducible apply Gro.alloc | with_reducible apply Gro.drew | with_reducible apply Gro.drewN))⟩
  · have HR := Lib.hid (show szRes left (szL szMachine xs) = -1 from if_neg (by unfold szL; omega))
    go_enter Try.func42, Try.ntmps42
    go_wp2
    go_ret
    exact ⟨ret_int HR.out.symm, Gro.refl _⟩
set_option maxHeartbeats 8000000 in
set_option maxRecDepth 100000 in
theorem toMachineS_l {xs : List DMachine} {w : World} {v : Value} (hx : (tMachine.sl 80).R w w.heap.size [v] xs) (hn : szL szMachine xs ≤ 1099511627776) :
    Calls Try.prog 46 #[v] w (RetSl tMachine 80 xs w) := by
  obtain ⟨A, c, rfl, h2, h3⟩ := sl_at hx
  obtain ⟨i0, hi, hz0, hz1, hz2⟩ := info_parts toMachineS_info
  have hn1 : xs.length ≤ 1099511627776 := Nat.le_trans (szL_len _ _) hn
  have hmk := run_make_rowN (P := Try.prog) 34 80 i0 _ Try.underlying34 hi hz0 .i64 .i64 xs.length xs.length (Nat.le_refl _) (by rw [hz2]; omega) (by omega)
  rw [hz1] at hmk
  clear hz0 hz1 hz2 hi
  go_enter Try.func46, Try.ntmps46
  go_wp2_with (fail)
  go_loopw [4] (fun i wr => ∃ (j : Nat) (cur : Array Value) (os : Array Obj) (d : Nat) (S' : List Nat), j ≤ xs.length ∧ i = .int .i64 j ∧ Hid (wr = gro (w.alloc (.cells cur 80)) os d) ∧ Hid (Rows tMachine (gro (w.alloc (.cells cur 80)) os d) (cur.toList.take (j * 7)) (xs.take j) S') ∧ Hid (S'.Nodup) ∧ Hid (∀ b ∈ S', w.heap.size + 1 ≤ b) ∧ Hid (cur.size = xs.length * 7)) (fun i _ => xs.length - (intOf i).toNat)
  case atStart => exact ⟨0, _, _, _, [], Nat.zero_le _, rfl, gro_refl, Lib.hid (by simp [Rows]), Lib.hid List.nodup_nil, Lib.hid (by simp), madeCells_size _ _⟩
  case round =>
    obtain ⟨j, cur, os, d, S', hj, rfl, hw, hr, hN, hL, hsz⟩ := hrel
    have hw' := hw.out
    subst hw'
    clear hw hmk
    by_cases hlt : j < xs.length
    · obtain ⟨g, off, x, A0, c0, A1, c1, rfl, hgb, hxk, hx0, hx1, hx2, hx3, hx4, hx5, hx6, bx0, bx1, bx2, bx3, bx4, bx5, bx6⟩ := atMachine hx hlt
      have hjs : j * 7 + 6 < cur.size := by have := hsz.out; omega
      have HX := Lib.hid hxk
      have hszx : szMachine x ≤ 1099511627776 := Nat.le_trans (szL_elem szMachine hxk) hn
      clear hxk hx
      go_wp2_with (fail)
      refine (toMachine_l (x := x) bx0 bx1 bx2 (Ty.up _ bx3 (by repeat (first | with_reducible exact Gro.refl _ | with_reducible exact Gro.refl_drew _ _ _ | with_reducible exact Gro.refl_drewN _ _ _ _ | assumption | with_reducible apply Gro.more | with_reducible apply Gro.alloc | with_reducible apply Gro.drew | with_reducible apply Gro.drewN))) (Ty.up _ bx4 (by repeat (first | with_reducible exact Gro.refl _ | with_reducible exact Gro.refl_drew _ _ _ | with_reducible exact Gro.refl_drewN _ _ _ _ | assumption | with_reducible apply Gro.more | with_reducible apply Gro.alloc | with_reducible apply Gro.drew | with_reducible apply Gro.drewN))) bx5 bx6 hszx).mono ?_
      rintro e w1 ⟨B0, f0, B1, f1, rfl, hF, os1, d1, rfl⟩
      obtain ⟨o0, ho0⟩ : ∃ u, cur[j * 7]? = some u := ⟨_, Array.getElem?_eq_getElem (by omega)⟩
      obtain ⟨o1, ho1⟩ : ∃ u, (cur.setIfInBounds (j * 7) (.int .i64 x.Pc))[j * 7 + 1]? = some u := ⟨_, Array.getElem?_eq_getElem (by simp only [Array.size_setIfInBounds]; omega)⟩
      obtain ⟨o2, ho2⟩ : ∃ u, ((cur.setIfInBounds (j * 7) (.int .i64 x.Pc)).setIfInBounds (j * 7 + 1) (.int .i64 x.Sp))[j * 7 + 2]? = some u := ⟨_, Array.getElem?_eq_getElem (by simp only [Array.size_setIfInBounds]; omega)⟩
      obtain ⟨o3, ho3⟩ : ∃ u, (((cur.setIfInBounds (j * 7) (.int .i64 x.Pc)).setIfInBounds (j * 7 + 1) (.int .i64 x.Sp)).setIfInBounds (j * 7 + 2) (.int .i64 x.Fp))[j * 7 + 3]? = some u := ⟨_, Array.getElem?_eq_getElem (by simp only [Array.size_setIfInBounds]; omega)⟩
      obtain ⟨o4, ho4⟩ : ∃ u, ((((cur.setIfInBounds (j * 7) (.int .i64 x.Pc)).setIfInBounds (j * 7 + 1) (.int .i64 x.Sp)).setIfInBounds (j * 7 + 2) (.int .i64 x.Fp)).setIfInBounds (j * 7 + 3) (.slice B0 x.Stack.length f0))[j * 7 + 4]? = some u := ⟨_, Array.getElem?_eq_getElem (by simp only [Array.size_setIfInBounds]; omega)⟩
      obtain ⟨o5, ho5⟩ : ∃ u, (((((cur.setIfInBounds (j * 7) (.int .i64 x.Pc)).setIfInBounds (j * 7 + 1) (.int .i64 x.Sp)).setIfInBounds (j * 7 + 2) (.int .i64 x.Fp)).setIfInBounds (j * 7 + 3) (.slice B0 x.Stack.length f0)).setIfInBounds (j * 7 + 4) (.slice B1 x.Out.length f1))[j * 7 + 5]? = some u := ⟨_, Array.getElem?_eq_getElem (by simp only [Array.size_setIfInBounds]; omega)⟩
      obtain ⟨o6, ho6⟩ : ∃ u, ((((((cur.setIfInBounds (j * 7) (.int .i64 x.Pc)).setIfInBounds (j * 7 + 1) (.int .i64 x.Sp)).setIfInBounds (j * 7 + 2) (.int .i64 x.Fp)).setIfInBounds (j * 7 + 3) (.slice B0 x.Stack.length f0)).setIfInBounds (j * 7 + 4) (.slice B1 x.Out.length f1)).setIfInBounds (j * 7 + 5) (.int .i64 x.State))[j * 7 + 6]? = some u := ⟨_, Array.getElem?_eq_getElem (by simp only [Array.size_setIfInBounds]; omega)⟩
      go_wp2
      go_roundw
      case rel =>
        rw [gro_gro] at hF
        obtain ⟨S'', h1, h2, h3, h4⟩ := rows_put (T := tMachine) hr.out hN.out hL.out hsz.out hlt HX.out hF (by rw [← gro_gro]; exact Gro.of _ _ _)
        exact ⟨j + 1, _, os ++ os1, d1, S'', by omega, by go_num, gro_gro _ _ _ _, h1, h2, h3, h4⟩
      case measure => simp [intOf]; omega
    · have hje : j = xs.length := by omega
      subst hje
      go_wp2
      go_ret
      exact rows_done hr.out hN.out hL.out hsz.out (Nat.le_refl _) (by omega)
set_option maxHeartbeats 8000000 in
set_option maxRecDepth 100000 in
theorem eqMachineS_l {xs ys : List DMachine} {w : World} {v u : Value} (hx : (tMachine.sl 80).R w w.heap.size [v] xs) (hy : (tMachine.sl 80).R w w.heap.size [u] ys) :
    Calls Try.prog 50 #[v, u] w fun e w' => e = .returned (.bool (decide (xs = ys))) ∧ Gro w w' := by
  obtain ⟨A, c, rfl, h1, h2⟩ := sl_at hx
  obtain ⟨A', c', rfl, k1, k2⟩ := sl_at hy
  by_cases hl : xs.length = ys.length
  · have hne : ((xs.length : Int) != (ys.length : Int)) = false := by simp [hl]
    have HL := Lib.hid hl
    clear hl
    go_enter Try.func50, Try.ntmps50
    go_wp2_with (fail)
    go_loopw [5] (fun i wr => ∃ k : Nat, k ≤ xs.length ∧ i = .int .i64 k ∧ Hid (Gro w wr) ∧ Hid (xs.take k = ys.take k)) (fun i _ => xs.length - (intOf i).toNat)
    case atStart => exact ⟨0, Nat.zero_le _, rfl, Gro.refl _, Lib.hid (by simp)⟩
    case round =>
      obtain ⟨k, hk, rfl, hG, HT⟩ := hrel
      obtain ⟨os, d, rfl⟩ := hG.out
      clear hG
      by_cases hlt : k < xs.length
      · have hlt2 : k < ys.length := by rw [← HL.out]; exact hlt
        obtain ⟨g, off, x, A0, c0, A1, c1, rfl, hgb, hxk, hx0, hx1, hx2, hx3, hx4, hx5, hx6, bx0, bx1, bx2, bx3, bx4, bx5, bx6⟩ := atMachine hx hlt
        obtain ⟨g', off', y, B0, e0, B1, e1, rfl, hgb', hyk, hy0, hy1, hy2, hy3, hy4, hy5, hy6, by0, by1, by2, by3, by4, by5, by6⟩ := atMachine hy hlt2
        have HX := Lib.hid hxk
        have HY := Lib.hid hyk
        clear hxk hyk hx hy
        by_cases hxy : x = y
        · subst hxy
          go_wp2_with (fail)
          go_region_held3 (fun w' => w'.cell? ⟨g, off + k * 7, none⟩ = some (.int .i64 x.Pc) ∧ w'.cell? ⟨g, off + k * 7 + 1, none⟩ = some (.int .i64 x.Sp) ∧ w'.cell? ⟨g, off + k * 7 + 2, none⟩ = some (.int .i64 x.Fp) ∧ w'.cell? ⟨g, off + k * 7 + 3, none⟩ = some (.slice A0 x.Stack.length c0) ∧ w'.cell? ⟨g, off + k * 7 + 4, none⟩ = some (.slice A1 x.Out.length c1) ∧ w'.cell? ⟨g, off + k * 7 + 5, none⟩ = some (.int .i64 x.State) ∧ w'.cell? ⟨g, off + k * 7 + 6, none⟩ = some (.int .i64 x.Value) ∧ w'.cell? ⟨g', off' + k * 7, none⟩ = some (.int .i64 x.Pc) ∧ w'.cell? ⟨g', off' + k * 7 + 1, none⟩ = some (.int .i64 x.Sp) ∧ w'.cell? ⟨g', off' + k * 7 + 2, none⟩ = some (.int .i64 x.Fp) ∧ w'.cell? ⟨g', off' + k * 7 + 3, none⟩ = some (.slice B0 x.Stack.length e0) ∧ w'.cell? ⟨g', off' + k * 7 + 4, none⟩ = some (.slice B1 x.Out.length e1) ∧ w'.cell? ⟨g', off' + k * 7 + 5, none⟩ = some (.int .i64 x.State) ∧ w'.cell? ⟨g', off' + k * 7 + 6, none⟩ = some (.int .i64 x.Value)) ((repeat' apply And.intro) <;> (first | ((repeat (first | assumption | with_reducible refine gro_keeps ?_ _ _ | with_reducible refine alloc_keeps ?_ _ | with_reducible refine drew_keeps ?_)); done) | (simp [go_sem]; done))) (first
            | (go_at_call 87; refine (eqMachine_l (x := x) (y := x) (Ty.up _ bx3 (by repeat (first | with_reducible exact Gro.refl _ | with_reducible exact Gro.refl_drew _ _ _ | with_reducible exact Gro.refl_drewN _ _ _ _ | assumption | with_reducible apply Gro.more | with_reducible apply Gro.alloc | with_reducible apply Gro.drew | with_reducible apply Gro.drewN))) (Ty.up _ bx4 (by repeat (first | with_reducible exact Gro.refl _ | with_reducible exact Gro.refl_drew _ _ _ | with_reducible exact Gro.refl_drewN _ _ _ _ | assumption | with_reducible apply Gro.more | with_reducible apply Gro.alloc | with_reducible apply Gro.drew | with_reducible apply Gro.drewN))) (Ty.up _ by3 (by repeat (first | with_reducible exact Gro.refl _ | with_reducible exact Gro.refl_drew _ _ _ | with_reducible exact Gro.refl_drewN _ _ _ _ | assumption | with_reducible apply Gro.more | with_reducible apply Gro.alloc | with_reducible apply Gro.drew | with_reducible apply Gro.drewN))) (Ty.up _ by4 (by repeat (first | with_reducible exact Gro.refl _ | with_reducible exact Gro.refl_drew _ _ _ | with_reducible exact Gro.refl_drewN _ _ _ _ | assumption | with_reducible apply Gro.more | with_reducible apply Gro.alloc | with_reducible apply Gro.drew | with_reducible apply Gro.drewN)))).mono ?_; rintro e w1 ⟨rfl, os1, d1, rfl⟩))
          go_wp2
          go_roundw
          case rel => exact ⟨k + 1, by omega, by go_num, Lib.hid (by repeat (first | with_reducible exact Gro.refl _ | with_reducible exact Gro.refl_drew _ _ _ | with_reducible exact Gro.refl_drewN _ _ _ _ | assumption | with_reducible apply Gro.more | with_reducible apply Gro.alloc | with_reducible apply Gro.drew | with_reducible apply Gro.drewN)), Lib.hid (by rw [take_snoc HX.out, take_snoc HY.out, HT.out])⟩
          case measure => simp [intOf]; omega
        · have HXY := Lib.hid (show decide (x = y) = false from by simp [hxy])
          go_wp2_with (fail)
          go_region_held3 (fun w' => w'.cell? ⟨g, off + k * 7, none⟩ = some (.int .i64 x.Pc) ∧ w'.cell? ⟨g, off + k * 7 + 1, none⟩ = some (.int .i64 x.Sp) ∧ w'.cell? ⟨g, off + k * 7 + 2, none⟩ = some (.int .i64 x.Fp) ∧ w'.cell? ⟨g, off + k * 7 + 3, none⟩ = some (.slice A0 x.Stack.length c0) ∧ w'.cell? ⟨g, off + k * 7 + 4, none⟩ = some (.slice A1 x.Out.length c1) ∧ w'.cell? ⟨g, off + k * 7 + 5, none⟩ = some (.int .i64 x.State) ∧ w'.cell? ⟨g, off + k * 7 + 6, none⟩ = some (.int .i64 x.Value) ∧ w'.cell? ⟨g', off' + k * 7, none⟩ = some (.int .i64 y.Pc) ∧ w'.cell? ⟨g', off' + k * 7 + 1, none⟩ = some (.int .i64 y.Sp) ∧ w'.cell? ⟨g', off' + k * 7 + 2, none⟩ = some (.int .i64 y.Fp) ∧ w'.cell? ⟨g', off' + k * 7 + 3, none⟩ = some (.slice B0 y.Stack.length e0) ∧ w'.cell? ⟨g', off' + k * 7 + 4, none⟩ = some (.slice B1 y.Out.length e1) ∧ w'.cell? ⟨g', off' + k * 7 + 5, none⟩ = some (.int .i64 y.State) ∧ w'.cell? ⟨g', off' + k * 7 + 6, none⟩ = some (.int .i64 y.Value)) ((repeat' apply And.intro) <;> (first | ((repeat (first | assumption | with_reducible refine gro_keeps ?_ _ _ | with_reducible refine alloc_keeps ?_ _ | with_reducible refine drew_keeps ?_)); done) | (simp [go_sem]; done))) (first
            | (go_at_call 87; refine (eqMachine_l (x := x) (y := y) (Ty.up _ bx3 (by repeat (first | with_reducible exact Gro.refl _ | with_reducible exact Gro.refl_drew _ _ _ | with_reducible exact Gro.refl_drewN _ _ _ _ | assumption | with_reducible apply Gro.more | with_reducible apply Gro.alloc | with_reducible apply Gro.drew | with_reducible apply Gro.drewN))) (Ty.up _ bx4 (by repeat (first | with_reducible exact Gro.refl _ | with_reducible exact Gro.refl_drew _ _ _ | with_reducible exact Gro.refl_drewN _ _ _ _ | assumption | with_reducible apply Gro.more | with_reducible apply Gro.alloc | with_reducible apply Gro.drew | with_reducible apply Gro.drewN))) (Ty.up _ by3 (by repeat (first | with_reducible exact Gro.refl _ | with_reducible exact Gro.refl_drew _ _ _ | with_reducible exact Gro.refl_drewN _ _ _ _ | assumption | with_reducible apply Gro.more | with_reducible apply Gro.alloc | with_reducible apply Gro.drew | with_reducible apply Gro.drewN))) (Ty.up _ by4 (by repeat (first | with_reducible exact Gro.refl _ | with_reducible exact Gro.refl_drew _ _ _ | with_reducible exact Gro.refl_drewN _ _ _ _ | assumption | with_reducible apply Gro.more | with_reducible apply Gro.alloc | with_reducible apply Gro.drew | with_reducible apply Gro.drewN)))).mono ?_; rw [HXY.out]; rintro e w1 ⟨rfl, os1, d1, rfl⟩))
          go_wp2
          go_ret
          refine ⟨ret_bool ?_, (by repeat (first | with_reducible exact Gro.refl _ | with_reducible exact Gro.refl_drew _ _ _ | with_reducible exact Gro.refl_drewN _ _ _ _ | assumption | with_reducible apply Gro.more | with_reducible apply Gro.alloc | with_reducible apply Gro.drew | with_reducible apply Gro.drewN))⟩
          symm
          simp only [decide_eq_false_iff_not]
          rintro rfl
          exact hxy (Option.some.inj (HX.out.symm.trans HY.out))
      · go_wp2
        go_ret
        refine ⟨ret_bool ?_, (by repeat (first | with_reducible exact Gro.refl _ | with_reducible exact Gro.refl_drew _ _ _ | with_reducible exact Gro.refl_drewN _ _ _ _ | assumption | with_reducible apply Gro.more | with_reducible apply Gro.alloc | with_reducible apply Gro.drew | with_reducible apply Gro.drewN))⟩
        have : k = xs.length := by omega
        subst this
        have h1 := HT.out
        rw [HL.out] at h1
        simp only [List.take_length] at h1
        rw [← HL.out] at h1
        simp at h1
        simp [h1]
  · have hne : ((xs.length : Int) != (ys.length : Int)) = true := by simp; omega
    go_enter Try.func50, Try.ntmps50
    go_wp2
    go_ret
    exact ⟨ret_bool (by symm; simp only [decide_eq_false_iff_not]; rintro rfl; exact hl rfl), Gro.refl _⟩
set_option maxRecDepth 100000 in
set_option maxHeartbeats 4000000 in
theorem markMachineS_l {xs : List DMachine} {w : World} {A : Option Addr} {n c : Nat} {k : Int} {S : List Nat} (hO : (tMachine.sl 80).O w [.slice A n c] xs S) (hS : S.Nodup) (h0 : 0 < k) (h1 : k + (cntMachineS xs : Nat) ≤ 1099511627776) :
    Calls Try.prog 61 #[.slice A n c, .int .i64 k] w fun e w' => e = .returned (.int .i64 (k + (cntMachineS xs : Nat))) ∧ (tMachine.sl 80).O w' [.slice A n c] (mkMachineS xs k) S ∧ OnlyS S w w' := by
  obtain ⟨_, _, hx, h2, h3⟩ := sl_at (Ty.read _ hO)
  injection hx with hA hn hc
  subst hA hn hc
  have h3c := h3
  clear h3
  unfold cntMachineS at h1 ⊢
  go_enter Try.func61, Try.ntmps61
  go_wp2_with (fail)
  go_loopw [1, 5] (fun a i wr => ∃ (j q : Nat), j ≤ xs.length ∧ a = .int .i64 (k + q) ∧ i = .int .i64 j ∧ Hid (cntL cntEMachine (xs.take j) = q) ∧ Hid ((tMachine.sl 80).O wr [.slice A xs.length c] (mkTo mkEMachine cntEMachine xs k j) S) ∧ Hid (OnlyS S w wr)) (fun _ i _ => xs.length - (intOf i).toNat)
  case atStart => exact ⟨0, 0, Nat.zero_le _, by simp, rfl, Lib.hid (by simp [cntL]), Lib.hid (by rw [mkTo_zero]; exact hO), OnlyS.refl _ _⟩
  case round =>
    obtain ⟨j, q, hj, rfl, rfl, hq, ho, hs⟩ := hrel
    by_cases hlt : j < xs.length
    · have hxj : xs[j]? = some xs[j] := List.getElem?_eq_getElem hlt
      obtain ⟨g, ec, Sc, cur, rfl, hgS, hgl, hgc, hSc, hNc, hO1, hb, hcs, hcell, hset⟩ := own_mix ho.out hS (mkTo_get hxj k)
      generalize hxe : xs[j] = x at hxj hO1
      clear hxe
      have hqs : q + cntEMachine x ≤ cntL cntEMachine xs := by
        have := cntL_snoc (cnt := cntEMachine) hxj
        have h9 := cntL_take_le (cnt := cntEMachine) xs (j + 1)
        have := hq.out
        omega
      have hq2 := Lib.hid (show cntL cntEMachine (xs.take (j + 1)) = q + cntEMachine x from by rw [cntL_snoc hxj, hq.out])
      rw [cntEMachine_eq] at hqs
      obtain ⟨A0, c0, S0, A1, c1, S1, hcl, rfl, _, _, _, hO0, hO1, _, _⟩ := tMachine_O hO1
      subst hcl
      have hr0 := hcell 0 _ rfl
      have hr1 := hcell 1 _ rfl
      have hr2 := hcell 2 _ rfl
      have hr3 := hcell 3 _ rfl
      have hr4 := hcell 4 _ rfl
      have hr5 := hcell 5 _ rfl
      have hr6 := hcell 6 _ rfl
      simp only [Nat.add_zero, show tMachine.size = 7 from rfl] at hcs hset hr0 hr1 hr2 hr3 hr4 hr5 hr6
      have hc0 : wr.cell? ⟨g, j * 7, none⟩ = some (.int .i64 x.Pc) := (cell_of_row wr g _ cur _ (0, 0) hb).trans hr0
      have hc1 : wr.cell? ⟨g, j * 7 + 1, none⟩ = some (.int .i64 x.Sp) := (cell_of_row wr g _ cur _ (0, 0) hb).trans hr1
      have hc2 : wr.cell? ⟨g, j * 7 + 2, none⟩ = some (.int .i64 x.Fp) := (cell_of_row wr g _ cur _ (0, 0) hb).trans hr2
      have hc3 : wr.cell? ⟨g, j * 7 + 3, none⟩ = some (.slice A0 x.Stack.length c0) := (cell_of_row wr g _ cur _ (0, 0) hb).trans hr3
      have hc4 : wr.cell? ⟨g, j * 7 + 4, none⟩ = some (.slice A1 x.Out.length c1) := (cell_of_row wr g _ cur _ (0, 0) hb).trans hr4
      have hc5 : wr.cell? ⟨g, j * 7 + 5, none⟩ = some (.int .i64 x.State) := (cell_of_row wr g _ cur _ (0, 0) hb).trans hr5
      have hc6 : wr.cell? ⟨g, j * 7 + 6, none⟩ = some (.int .i64 x.Value) := (cell_of_row wr g _ cur _ (0, 0) hb).trans hr6
      have hf0 := frz_blk hb (j * 7)
      have hf1 := frz_blk hb (j * 7 + 1)
      have hf2 := frz_blk hb (j * 7 + 2)
      have hf3 := frz_blk hb (j * 7 + 3)
      have hf4 := frz_blk hb (j * 7 + 4)
      have hf5 := frz_blk hb (j * 7 + 5)
      have hf6 := frz_blk hb (j * 7 + 6)
      have HX := Lib.hid hxj
      have HS := Lib.hid hset
      obtain ⟨hN0, hN1, hD01, hD10⟩ := nd2 hNc
      clear hcell hset hxj hO hO1
      have hL0 := Ty.ltO _ hO0
      have hg0 : g ∉ S0 := fun hm => hgc (by simp [hm])
      have hL1 := Ty.ltO _ hO1
      have hg1 : g ∉ S1 := fun hm => hgc (by simp [hm])
      go_wp2_with (fail)
      refine (markIntS_l (xs := x.Stack) (keepS _ hO0 ((((OnlyS.refl [g] wr).setCell (p := ⟨g, _, none⟩) (by simp) _).setCell (p := ⟨g, _, none⟩) (by simp) _).setCell (p := ⟨g, _, none⟩) (by simp) _) (not_one hg0)) hN0 (by omega) (by omega)).mono ?_
      rintro e w1 ⟨rfl, hM0, hs1⟩
      have hb1 : w1.heap[g]? = some (.cells (((cur.setIfInBounds (j * 7) (.int .i64 (k + (q : Int)))).setIfInBounds (j * 7 + 1) (.int .i64 (k + (q : Int) + 1))).setIfInBounds (j * 7 + 2) (.int .i64 (k + (q : Int) + 1 + 1))) _ (0, 0)) := (hs1.block g (Nat.lt_of_lt_of_le hgl (((((OnlyS.refl [g] wr).setCell (p := ⟨g, _, none⟩) (by simp) _).setCell (p := ⟨g, _, none⟩) (by simp) _).setCell (p := ⟨g, _, none⟩) (by simp) _)).size) hg0).trans (heap_setCell_at (heap_setCell_at (heap_setCell_at hb _ _) _ _) _ _)
      have hon1 : OnlyS ([g] ++ S0) wr w1 := (((((OnlyS.refl [g] wr).setCell (p := ⟨g, _, none⟩) (by simp) _).setCell (p := ⟨g, _, none⟩) (by simp) _).setCell (p := ⟨g, _, none⟩) (by simp) _).mono (fun b hb => by simp at hb; simp [hb])).trans (hs1.mono (fun b hb => by simp [hb]))
      have hK1_0 := keepS _ (keepS _ hO1 ((((OnlyS.refl [g] wr).setCell (p := ⟨g, _, none⟩) (by simp) _).setCell (p := ⟨g, _, none⟩) (by simp) _).setCell (p := ⟨g, _, none⟩) (by simp) _) (not_one hg1)) hs1 hD10
      obtain ⟨cur1, he1⟩ : ∃ c, (((cur.setIfInBounds (j * 7) (.int .i64 (k + (q : Int)))).setIfInBounds (j * 7 + 1) (.int .i64 (k + (q : Int) + 1))).setIfInBounds (j * 7 + 2) (.int .i64 (k + (q : Int) + 1 + 1))) = c := ⟨_, rfl⟩
      rw [he1] at hb1
      have hr1_0 : cur1[j * 7]? = some (.int .i64 (k + (q : Int))) := by rw [← he1]; rw [Array.getElem?_setIfInBounds_ne (by omega)]; rw [Array.getElem?_setIfInBounds_ne (by omega)]; exact Array.getElem?_setIfInBounds_self_of_lt (by (try simp only [Array.size_setIfInBounds]); omega)
      have hc1_0 : w1.cell? ⟨g, j * 7, none⟩ = some (.int .i64 (k + (q : Int))) := (cell_of_row w1 g _ cur1 _ (0, 0) hb1).trans hr1_0
      have hf1_0 := frz_blk hb1 (j * 7)
      have hr1_1 : cur1[j * 7 + 1]? = some (.int .i64 (k + (q : Int) + 1)) := by rw [← he1]; rw [Array.getElem?_setIfInBounds_ne (by omega)]; exact Array.getElem?_setIfInBounds_self_of_lt (by (try simp only [Array.size_setIfInBounds]); omega)
      have hc1_1 : w1.cell? ⟨g, j * 7 + 1, none⟩ = some (.int .i64 (k + (q : Int) + 1)) := (cell_of_row w1 g _ cur1 _ (0, 0) hb1).trans hr1_1
      have hf1_1 := frz_blk hb1 (j * 7 + 1)
      have hr1_2 : cur1[j * 7 + 2]? = some (.int .i64 (k + (q : Int) + 1 + 1)) := by rw [← he1]; exact Array.getElem?_setIfInBounds_self_of_lt (by (try simp only [Array.size_setIfInBounds]); omega)
      have hc1_2 : w1.cell? ⟨g, j * 7 + 2, none⟩ = some (.int .i64 (k + (q : Int) + 1 + 1)) := (cell_of_row w1 g _ cur1 _ (0, 0) hb1).trans hr1_2
      have hf1_2 := frz_blk hb1 (j * 7 + 2)
      have hr1_3 : cur1[j * 7 + 3]? = some (.slice A0 x.Stack.length c0) := by rw [← he1]; rw [Array.getElem?_setIfInBounds_ne (by omega)]; rw [Array.getElem?_setIfInBounds_ne (by omega)]; rw [Array.getElem?_setIfInBounds_ne (by omega)]; exact hr3
      have hc1_3 : w1.cell? ⟨g, j * 7 + 3, none⟩ = some (.slice A0 x.Stack.length c0) := (cell_of_row w1 g _ cur1 _ (0, 0) hb1).trans hr1_3
      have hf1_3 := frz_blk hb1 (j * 7 + 3)
      have hr1_4 : cur1[j * 7 + 4]? = some (.slice A1 x.Out.length c1) := by rw [← he1]; rw [Array.getElem?_setIfInBounds_ne (by omega)]; rw [Array.getElem?_setIfInBounds_ne (by omega)]; rw [Array.getElem?_setIfInBounds_ne (by omega)]; exact hr4
      have hc1_4 : w1.cell? ⟨g, j * 7 + 4, none⟩ = some (.slice A1 x.Out.length c1) := (cell_of_row w1 g _ cur1 _ (0, 0) hb1).trans hr1_4
      have hf1_4 := frz_blk hb1 (j * 7 + 4)
      have hr1_5 : cur1[j * 7 + 5]? = some (.int .i64 x.State) := by rw [← he1]; rw [Array.getElem?_setIfInBounds_ne (by omega)]; rw [Array.getElem?_setIfInBounds_ne (by omega)]; rw [Array.getElem?_setIfInBounds_ne (by omega)]; exact hr5
      have hc1_5 : w1.cell? ⟨g, j * 7 + 5, none⟩ = some (.int .i64 x.State) := (cell_of_row w1 g _ cur1 _ (0, 0) hb1).trans hr1_5
      have hf1_5 := frz_blk hb1 (j * 7 + 5)
      have hr1_6 : cur1[j * 7 + 6]? = some (.int .i64 x.Value) := by rw [← he1]; rw [Array.getElem?_setIfInBounds_ne (by omega)]; rw [Array.getElem?_setIfInBounds_ne (by omega)]; rw [Array.getElem?_setIfInBounds_ne (by omega)]; exact hr6
      have hc1_6 : w1.cell? ⟨g, j * 7 + 6, none⟩ = some (.int .i64 x.Value) := (cell_of_row w1 g _ cur1 _ (0, 0) hb1).trans hr1_6
      have hf1_6 := frz_blk hb1 (j * 7 + 6)
      have hz1 : cur1.size = cur.size := by (first | (rw [← he1]; done) | (rw [← he1]; simp only [Array.size_setIfInBounds]))
      have ho1 : ∀ i, i < j * 7 ∨ j * 7 + 7 ≤ i → cur1[i]? = cur[i]? := fun i hi => by rw [← he1]; rw [Array.getElem?_setIfInBounds_ne (by omega)]; rw [Array.getElem?_setIfInBounds_ne (by omega)]; rw [Array.getElem?_setIfInBounds_ne (by omega)]
      have HE1 := Lib.hid he1
      clear he1
      have hgl1 : g < w1.heap.size := Nat.lt_of_lt_of_le hgl hon1.size
      clear hc0 hf0 hc1 hf1 hc2 hf2 hc3 hf3 hc4 hf4 hc5 hf5 hc6 hf6
      go_wp2_with (fail)
      refine (markIntS_l (xs := x.Out) (keepS _ hK1_0 (OnlyS.refl [g] w1) (not_one hg1)) hN1 (by omega) (by omega)).mono ?_
      rintro e w2 ⟨rfl, hM1, hs2⟩
      have hb2 : w2.heap[g]? = some (.cells cur1 _ (0, 0)) := (hs2.block g (Nat.lt_of_lt_of_le hgl1 ((OnlyS.refl [g] w1)).size) hg1).trans hb1
      have hon2 : OnlyS ([g] ++ S1) w1 w2 := ((OnlyS.refl [g] w1).mono (fun b hb => by simp at hb; simp [hb])).trans (hs2.mono (fun b hb => by simp [hb]))
      have hK0_1 := keepS _ (keepS _ hM0 (OnlyS.refl [g] w1) (not_one hg0)) hs2 hD01
      replace hM0 := hK0_1
      obtain ⟨cur2, he2⟩ : ∃ c, cur1 = c := ⟨_, rfl⟩
      rw [he2] at hb2
      have hr2_0 : cur2[j * 7]? = some (.int .i64 (k + (q : Int))) := by rw [← he2]; exact hr1_0
      have hc2_0 : w2.cell? ⟨g, j * 7, none⟩ = some (.int .i64 (k + (q : Int))) := (cell_of_row w2 g _ cur2 _ (0, 0) hb2).trans hr2_0
      have hf2_0 := frz_blk hb2 (j * 7)
      have hr2_1 : cur2[j * 7 + 1]? = some (.int .i64 (k + (q : Int) + 1)) := by rw [← he2]; exact hr1_1
      have hc2_1 : w2.cell? ⟨g, j * 7 + 1, none⟩ = some (.int .i64 (k + (q : Int) + 1)) := (cell_of_row w2 g _ cur2 _ (0, 0) hb2).trans hr2_1
      have hf2_1 := frz_blk hb2 (j * 7 + 1)
      have hr2_2 : cur2[j * 7 + 2]? = some (.int .i64 (k + (q : Int) + 1 + 1)) := by rw [← he2]; exact hr1_2
      have hc2_2 : w2.cell? ⟨g, j * 7 + 2, none⟩ = some (.int .i64 (k + (q : Int) + 1 + 1)) := (cell_of_row w2 g _ cur2 _ (0, 0) hb2).trans hr2_2
      have hf2_2 := frz_blk hb2 (j * 7 + 2)
      have hr2_3 : cur2[j * 7 + 3]? = some (.slice A0 x.Stack.length c0) := by rw [← he2]; exact hr1_3
      have hc2_3 : w2.cell? ⟨g, j * 7 + 3, none⟩ = some (.slice A0 x.Stack.length c0) := (cell_of_row w2 g _ cur2 _ (0, 0) hb2).trans hr2_3
      have hf2_3 := frz_blk hb2 (j * 7 + 3)
      have hr2_4 : cur2[j * 7 + 4]? = some (.slice A1 x.Out.length c1) := by rw [← he2]; exact hr1_4
      have hc2_4 : w2.cell? ⟨g, j * 7 + 4, none⟩ = some (.slice A1 x.Out.length c1) := (cell_of_row w2 g _ cur2 _ (0, 0) hb2).trans hr2_4
      have hf2_4 := frz_blk hb2 (j * 7 + 4)
      have hr2_5 : cur2[j * 7 + 5]? = some (.int .i64 x.State) := by rw [← he2]; exact hr1_5
      have hc2_5 : w2.cell? ⟨g, j * 7 + 5, none⟩ = some (.int .i64 x.State) := (cell_of_row w2 g _ cur2 _ (0, 0) hb2).trans hr2_5
      have hf2_5 := frz_blk hb2 (j * 7 + 5)
      have hr2_6 : cur2[j * 7 + 6]? = some (.int .i64 x.Value) := by rw [← he2]; exact hr1_6
      have hc2_6 : w2.cell? ⟨g, j * 7 + 6, none⟩ = some (.int .i64 x.Value) := (cell_of_row w2 g _ cur2 _ (0, 0) hb2).trans hr2_6
      have hf2_6 := frz_blk hb2 (j * 7 + 6)
      have hz2 : cur2.size = cur1.size := by (first | (rw [← he2]; done) | (rw [← he2]; simp only [Array.size_setIfInBounds]))
      have ho2 : ∀ i, i < j * 7 ∨ j * 7 + 7 ≤ i → cur2[i]? = cur1[i]? := fun i hi => by rw [← he2]
      have HE2 := Lib.hid he2
      clear he2
      have hgl2 : g < w2.heap.size := Nat.lt_of_lt_of_le hgl1 hon2.size
      clear hc1_0 hf1_0 hc1_1 hf1_1 hc1_2 hf1_2 hc1_3 hf1_3 hc1_4 hf1_4 hc1_5 hf1_5 hc1_6 hf1_6
      go_wp2_with (fail)
      go_roundw
      case rel =>
        have e := mkTo_set (mk := mkEMachine) (cnt := cntEMachine) HX.out k
        rw [hq.out] at e
        refine ⟨j + 1, q + cntEMachine x, by omega, ?_, by go_num, hq2, Lib.hid ?_, Lib.hid ?_⟩
        · exact congrArg (Value.int .i64) (by rw [cntEMachine_eq]; push_cast; omega)
        · rw [← e]
          have hOO : ∀ W, OnlyS [g] w2 W → tMachine.O W [.int .i64 (k + (q : Int)), .int .i64 (k + (q : Int) + 1), .int .i64 (k + (q : Int) + 1 + 1), .slice A0 x.Stack.length c0, .slice A1 x.Out.length c1, .int .i64 (k + (q : Int) + 1 + 1 + 1 + (x.Stack.length : Nat) + (x.Out.length : Nat)), .int .i64 (k + (q : Int) + 1 + 1 + 1 + (x.Stack.length : Nat) + (x.Out.length : Nat) + 1)] (mkEMachine x (k + (q : Int))) (S0 ++ S1) := fun W hW => by
            have h := (tMachine_mkOd (x := (mkEMachine x (k + (q : Int)))) ⟨by simp only [mkEMachine]; omega, by simp only [mkEMachine]; omega⟩ ⟨by simp only [mkEMachine]; omega, by simp only [mkEMachine]; omega⟩ ⟨by simp only [mkEMachine]; omega, by simp only [mkEMachine]; omega⟩ (keepS _ (by simpa [mkEMachine, mkInts_length] using hM0) hW (not_one hg0)) (keepS _ (by simpa [mkEMachine, mkInts_length] using hM1) hW (not_one hg1)) ⟨by simp only [mkEMachine]; omega, by simp only [mkEMachine]; omega⟩ ⟨by simp only [mkEMachine]; omega, by simp only [mkEMachine]; omega⟩)
            simpa [mkEMachine, mkInts_length] using h
          refine HS.out _ _ _ _ (hOO _ (((OnlyS.refl [g] w2).setCell (p := ⟨g, _, none⟩) (by simp) _).setCell (p := ⟨g, _, none⟩) (by simp) _)) (heap_setCell_at (heap_setCell_at hb2 _ _) _ _) ?_ ?_ ?_ ?_
          · simp only [Array.size_setIfInBounds, hz2, hz1]
          · intro i hi
            rw [Array.getElem?_setIfInBounds_ne (by omega)]; rw [Array.getElem?_setIfInBounds_ne (by omega)]; rw [ho2 i hi]; rw [ho1 i hi]
          · intro t u hu
            exact match t, hu with
            | 0, hu => by
              cases hu
              rw [Array.getElem?_setIfInBounds_ne (by omega)]; rw [Array.getElem?_setIfInBounds_ne (by omega)]; exact hr2_0
            | 1, hu => by
              cases hu
              rw [Array.getElem?_setIfInBounds_ne (by omega)]; rw [Array.getElem?_setIfInBounds_ne (by omega)]; exact hr2_1
            | 2, hu => by
              cases hu
              rw [Array.getElem?_setIfInBounds_ne (by omega)]; rw [Array.getElem?_setIfInBounds_ne (by omega)]; exact hr2_2
            | 3, hu => by
              cases hu
              rw [Array.getElem?_setIfInBounds_ne (by omega)]; rw [Array.getElem?_setIfInBounds_ne (by omega)]; exact hr2_3
            | 4, hu => by
              cases hu
              rw [Array.getElem?_setIfInBounds_ne (by omega)]; rw [Array.getElem?_setIfInBounds_ne (by omega)]; exact hr2_4
            | 5, hu => by
              cases hu
              rw [Array.getElem?_setIfInBounds_ne (by omega)]; exact Array.getElem?_setIfInBounds_self_of_lt (by (try simp only [Array.size_setIfInBounds]); omega)
            | 6, hu => by
              cases hu
              exact Array.getElem?_setIfInBounds_self_of_lt (by (try simp only [Array.size_setIfInBounds]); omega)
            | t + 7, hu => by simp at hu
          · exact (((hon1.mono (fun b hb => by simp at hb ⊢; rcases hb with h | h <;> simp [h])).trans (hon2.mono (fun b hb => by simp at hb ⊢; rcases hb with h | h <;> simp [h]))).trans ((((OnlyS.refl [g] w2).setCell (p := ⟨g, _, none⟩) (by simp) _).setCell (p := ⟨g, _, none⟩) (by simp) _).mono (fun b hb => by simp at hb; simp [hb])))
        · exact hs.out.trans (((((hon1.mono (fun b hb => by simp at hb ⊢; rcases hb with h | h <;> simp [h])).trans (hon2.mono (fun b hb => by simp at hb ⊢; rcases hb with h | h <;> simp [h]))).trans ((((OnlyS.refl [g] w2).setCell (p := ⟨g, _, none⟩) (by simp) _).setCell (p := ⟨g, _, none⟩) (by simp) _).mono (fun b hb => by simp at hb; simp [hb]))) : OnlyS (g :: (S0 ++ S1)) wr _).mono (fun b hb => by
            rcases List.mem_cons.1 hb with rfl | hb
            · exact hgS
            · exact hSc b (by simpa using hb)))
      case measure => simp [intOf]; omega
    · go_wp2
      have : j = xs.length := by omega
      subst this
      have ho' := ho.out
      rw [mkTo_all] at ho'
      have hq' := hq.out
      rw [List.take_length] at hq'
      go_ret
      exact ⟨ret_int (by rw [hq']), ho', hs.out⟩
set_option maxRecDepth 100000 in
set_option maxHeartbeats 4000000 in
theorem heldMachineS_l {xs : List DMachine} {w : World} {v : Value} {k : Int} (hx : (tMachine.sl 80).R w w.heap.size [v] (mkMachineS xs k)) (h0 : 0 < k) (h1 : k + (cntMachineS xs : Nat) ≤ 1099511627776) :
    Calls Try.prog 63 #[v, .int .i64 k] w fun e w' => e = .returned (.int .i64 (k + (cntMachineS xs : Nat))) ∧ Gro w w' := by
  obtain ⟨A, c, rfl, h2, h3⟩ := sl_at hx
  have hlen : (mkMachineS xs k).length = xs.length := mkL_length _ _
  rw [hlen] at h2 hx ⊢
  have HL := Lib.hid hlen
  clear hlen
  unfold cntMachineS at h1 ⊢
  go_enter Try.func63, Try.ntmps63
  go_wp2_with (fail)
  go_loopw [1, 5] (fun a i wr => ∃ (j q : Nat), j ≤ xs.length ∧ a = .int .i64 (k + q) ∧ i = .int .i64 j ∧ Hid (cntL cntEMachine (xs.take j) = q) ∧ Hid (Gro w wr)) (fun _ i _ => xs.length - (intOf i).toNat)
  case atStart => exact ⟨0, 0, Nat.zero_le _, by simp, rfl, Lib.hid (by simp [cntL]), Lib.hid (Gro.refl _)⟩
  case round =>
    obtain ⟨j, q, hj, rfl, rfl, hq, hG⟩ := hrel
    obtain ⟨os, d, rfl⟩ := hG.out
    clear hG
    by_cases hlt : j < xs.length
    · obtain ⟨g, off, y, A0, c0, A1, c1, rfl, hgb, hxk, hx0, hx1, hx2, hx3, hx4, hx5, hx6, bx0, bx1, bx2, bx3, bx4, bx5, bx6⟩ := atMachine hx (k := j) (by rw [HL.out]; exact hlt)
      have hxj : xs[j]? = some xs[j] := List.getElem?_eq_getElem hlt
      generalize hxe : xs[j] = x at hxj
      clear hxe
      have hye : y = mkEMachine x (k + (q : Int)) := by
        have := mkL_get (mk := mkEMachine) (cnt := cntEMachine) hxj k
        rw [hq.out] at this
        exact Option.some.inj (hxk.symm.trans this)
      have hqs : q + cntEMachine x ≤ cntL cntEMachine xs := by
        have := cntL_snoc (cnt := cntEMachine) hxj
        have h9 := cntL_take_le (cnt := cntEMachine) xs (j + 1)
        have := hq.out
        omega
      have hq2 := Lib.hid (show cntL cntEMachine (xs.take (j + 1)) = q + cntEMachine x from by rw [cntL_snoc hxj, hq.out])
      rw [cntEMachine_eq] at hqs
      clear hxk hx hxj
      subst hye
      simp only [mkEMachine, mkInts_length] at hx0 hx1 hx2 hx3 hx4 hx5 hx6 bx3 bx4
      go_wp2_with (fail)
      refine (heldIntS_l (xs := x.Stack) (Nat.le_refl _) (Ty.up _ bx3 (by repeat (first | with_reducible exact Gro.refl _ | with_reducible exact Gro.refl_drew _ _ _ | with_reducible exact Gro.refl_drewN _ _ _ _ | assumption | with_reducible apply Gro.more | with_reducible apply Gro.alloc | with_reducible apply Gro.drew | with_reducible apply Gro.drewN))) (by omega) (by omega)).mono ?_
      rintro e w1 ⟨rfl, os1, d1, rfl⟩
      go_wp2_with (fail)
      refine (heldIntS_l (xs := x.Out) (Nat.le_refl _) (Ty.up _ bx4 (by repeat (first | with_reducible exact Gro.refl _ | with_reducible exact Gro.refl_drew _ _ _ | with_reducible exact Gro.refl_drewN _ _ _ _ | assumption | with_reducible apply Gro.more | with_reducible apply Gro.alloc | with_reducible apply Gro.drew | with_reducible apply Gro.drewN))) (by omega) (by omega)).mono ?_
      rintro e w2 ⟨rfl, os2, d2, rfl⟩
      go_wp2_with (fail)
      go_roundw
      case rel =>
        refine ⟨j + 1, q + cntEMachine x, by omega, ?_, by go_num, hq2, Lib.hid (by repeat (first | with_reducible exact Gro.refl _ | with_reducible exact Gro.refl_drew _ _ _ | with_reducible exact Gro.refl_drewN _ _ _ _ | assumption | with_reducible apply Gro.more | with_reducible apply Gro.alloc | with_reducible apply Gro.drew | with_reducible apply Gro.drewN))⟩
        exact congrArg (Value.int .i64) (by rw [cntEMachine_eq]; push_cast; omega)
      case measure => simp [intOf]; omega
    · go_wp2
      have : j = xs.length := by omega
      subst this
      have hq' := hq.out
      rw [List.take_length] at hq'
      go_ret
      exact ⟨ret_int (by rw [hq']), (by repeat (first | with_reducible exact Gro.refl _ | with_reducible exact Gro.refl_drew _ _ _ | with_reducible exact Gro.refl_drewN _ _ _ _ | assumption | with_reducible apply Gro.more | with_reducible apply Gro.alloc | with_reducible apply Gro.drew | with_reducible apply Gro.drewN))⟩
end Go.Proofs.Ytbhobjepjaeffaa
namespace Go.Proofs.Ytbhobjepjaeffaa
open Go.RowKit
def RetProcess (x : DProcess) (w : World) (r : Ending) (w' : World) : Prop := ∃ A0 c0 A1 c1 A2 c2 A3 c3, r = .returned (.agg #[.slice A0 x.Space.Images.length c0, .slice A1 x.Space.Bases.length c1, .slice A2 x.Space.Entries.length c2, .slice A3 x.Threads.length c3, .int .i64 x.Turn, .int .i64 x.Left, .int .i64 x.Slice]) ∧ Fresh tProcess w w' [.slice A0 x.Space.Images.length c0, .slice A1 x.Space.Bases.length c1, .slice A2 x.Space.Entries.length c2, .slice A3 x.Threads.length c3, .int .i64 x.Turn, .int .i64 x.Left, .int .i64 x.Slice] x ∧ Gro w w'
theorem tProcess_mkOd {w : World} {x : DProcess} {A0 : Option Addr} {c0 : Nat} {A1 : Option Addr} {c1 : Nat} {A2 : Option Addr} {c2 : Nat} {A3 : Option Addr} {c3 : Nat} {S0 : List Nat} {S1 : List Nat} (h0 : tSpace.O w [.slice A0 x.Space.Images.length c0, .slice A1 x.Space.Bases.length c1, .slice A2 x.Space.Entries.length c2] x.Space S0) (h1 : (tMachine.sl 80).O w [.slice A3 x.Threads.length c3] x.Threads S1) (h2 : I64 x.Turn) (h3 : I64 x.Left) (h4 : I64 x.Slice) : tProcess.O w [.slice A0 x.Space.Images.length c0, .slice A1 x.Space.Bases.length c1, .slice A2 x.Space.Entries.length c2, .slice A3 x.Threads.length c3, .int .i64 x.Turn, .int .i64 x.Left, .int .i64 x.Slice] x (S0 ++ S1) := by
  have h : tProcess.O w [.slice A0 x.Space.Images.length c0, .slice A1 x.Space.Bases.length c1, .slice A2 x.Space.Entries.length c2, .slice A3 x.Threads.length c3, .int .i64 x.Turn, .int .i64 x.Left, .int .i64 x.Slice] x (S0 ++ (S1 ++ ([] ++ ([] ++ [])))) := ⟨[.slice A0 x.Space.Images.length c0, .slice A1 x.Space.Bases.length c1, .slice A2 x.Space.Entries.length c2], [.slice A3 x.Threads.length c3, .int .i64 x.Turn, .int .i64 x.Left, .int .i64 x.Slice], S0, (S1 ++ ([] ++ ([] ++ []))), rfl, rfl, h0, ⟨[.slice A3 x.Threads.length c3], [.int .i64 x.Turn, .int .i64 x.Left, .int .i64 x.Slice], S1, ([] ++ ([] ++ [])), rfl, rfl, h1, ⟨[.int .i64 x.Turn], [.int .i64 x.Left, .int .i64 x.Slice], [], ([] ++ []), rfl, rfl, ⟨rfl, h2.1, h2.2, rfl⟩, ⟨[.int .i64 x.Left], [.int .i64 x.Slice], [], [], rfl, rfl, ⟨rfl, h3.1, h3.2, rfl⟩, ⟨rfl, h4.1, h4.2, rfl⟩⟩⟩⟩⟩
  simpa using h
theorem eq_DProcess {x y : DProcess} : x = y ↔ x.Space = y.Space ∧ x.Threads = y.Threads ∧ x.Turn = y.Turn ∧ x.Left = y.Left ∧ x.Slice = y.Slice := by
  cases x
  cases y
  simp
def szProcess (x : DProcess) : Nat := szSpace x.Space + szL szMachine x.Threads
set_option maxRecDepth 100000 in
theorem toProcess_l {x : DProcess} {w : World} {A0 : Option Addr} {c0 : Nat} {A1 : Option Addr} {c1 : Nat} {A2 : Option Addr} {c2 : Nat} {A3 : Option Addr} {c3 : Nat} (h0 : (tImage.sl 96).R w w.heap.size [.slice A0 x.Space.Images.length c0] x.Space.Images) (h1 : (intT.sl 3).R w w.heap.size [.slice A1 x.Space.Bases.length c1] x.Space.Bases) (h2 : (intT.sl 3).R w w.heap.size [.slice A2 x.Space.Entries.length c2] x.Space.Entries) (h3 : (tMachine.sl 80).R w w.heap.size [.slice A3 x.Threads.length c3] x.Threads) (h4 : I64 x.Turn) (h5 : I64 x.Left) (h6 : I64 x.Slice) (hn : szProcess x ≤ 1099511627776) : Calls Try.prog 12 #[.agg #[.slice A0 x.Space.Images.length c0, .slice A1 x.Space.Bases.length c1, .slice A2 x.Space.Entries.length c2, .slice A3 x.Threads.length c3, .int .i64 x.Turn, .int .i64 x.Left, .int .i64 x.Slice]] w (RetProcess x w) := by
  unfold szProcess at hn
  go_enter Try.func12, Try.ntmps12
  go_wp2_with (first
      | (go_at_call 19; (with_reducible refine (toSpace_l (x := x.Space) (Ty.up _ h0 (by repeat (first | with_reducible exact Gro.refl _ | with_reducible exact Gro.refl_drew _ _ _ | with_reducible exact Gro.refl_drewN _ _ _ _ | assumption | with_reducible apply Gro.more | with_reducible apply Gro.alloc | with_reducible apply Gro.drew | with_reducible apply Gro.drewN))) (Ty.up _ h1 (by repeat (first | with_reducible exact Gro.refl _ | with_reducible exact Gro.refl_drew _ _ _ | with_reducible exact Gro.refl_drewN _ _ _ _ | assumption | with_reducible apply Gro.more | with_reducible apply Gro.alloc | with_reducible apply Gro.drew | with_reducible apply Gro.drewN))) (Ty.up _ h2 (by repeat (first | with_reducible exact Gro.refl _ | with_reducible exact Gro.refl_drew _ _ _ | with_reducible exact Gro.refl_drewN _ _ _ _ | assumption | with_reducible apply Gro.more | with_reducible apply Gro.alloc | with_reducible apply Gro.drew | with_reducible apply Gro.drewN))) (by omega)).mono ?_); rintro e w0 ⟨B0, d0, B1, d1, B2, d2, rfl, hF0, os0, dd0, rfl⟩)
      | (go_at_call 46; (with_reducible refine (toMachineS_l (xs := x.Threads) (Ty.up _ h3 (by repeat (first | with_reducible exact Gro.refl _ | with_reducible exact Gro.refl_drew _ _ _ | with_reducible exact Gro.refl_drewN _ _ _ _ | assumption | with_reducible apply Gro.more | with_reducible apply Gro.alloc | with_reducible apply Gro.drew | with_reducible apply Gro.drewN))) (by omega)).mono ?_); rintro e w1 ⟨B3, d3, rfl, hF1, os1, dd1, rfl⟩))
  refine bodyPost_ret (v := .agg #[.slice B0 x.Space.Images.length d0, .slice B1 x.Space.Bases.length d1, .slice B2 x.Space.Entries.length d2, .slice B3 x.Threads.length d3, .int .i64 x.Turn, .int .i64 x.Left, .int .i64 x.Slice]) (by simp [results, Try.results12, go_sem]) rfl ⟨B0, d0, B1, d1, B2, d2, B3, d3, rfl, ?_, (by repeat (first | with_reducible exact Gro.refl _ | with_reducible exact Gro.refl_drew _ _ _ | with_reducible exact Gro.refl_drewN _ _ _ _ | assumption | with_reducible apply Gro.more | with_reducible apply Gro.alloc | with_reducible apply Gro.drew | with_reducible apply Gro.drewN))⟩
  obtain ⟨S0, hO0, hN0, hL0⟩ := hF0
  obtain ⟨S1, hO1, hN1, hL1⟩ := hF1
  have hU0 := Ty.ltO _ hO0
  have hL0' := hL0
  have hU1 := Ty.ltO _ hO1
  have hL1' := hL1
  simp at hL0' hU0 hL1' hU1
  exact ⟨_, tProcess_mkOd (Ty.same _ hO0 hL0 (by repeat (first | with_reducible exact Same.refl _ _ _ | ((with_reducible refine Same.base ?_ ?_) <;> (simp <;> omega)) | ((with_reducible refine Same.more ?_ ?_ _ _); rotate_left; simp <;> omega) | ((with_reducible refine Same.alloc ?_ ?_ _); rotate_left; simp <;> omega) | with_reducible apply Same.drew | with_reducible apply Same.drewN))) (Ty.same _ hO1 hL1 (by repeat (first | with_reducible exact Same.refl _ _ _ | ((with_reducible refine Same.base ?_ ?_) <;> (simp <;> omega)) | ((with_reducible refine Same.more ?_ ?_ _ _); rotate_left; simp <;> omega) | ((with_reducible refine Same.alloc ?_ ?_ _); rotate_left; simp <;> omega) | with_reducible apply Same.drew | with_reducible apply Same.drewN))) h4 h5 h6, List.nodup_append.2 ⟨hN0, hN1, fun a ha b hb => (by have h1 := hU0 a ha; have h2 := hL1' b hb; omega)⟩, fun b hb => (List.mem_append.1 hb).elim (fun hb => (by have := hL0' b hb; omega)) (fun hb => (by have := hL1' b hb; omega))⟩
set_option maxRecDepth 100000 in
theorem szProcess_l {x : DProcess} {w : World} {left : Int} {A0 : Option Addr} {c0 : Nat} {A1 : Option Addr} {c1 : Nat} {A2 : Option Addr} {c2 : Nat} {A3 : Option Addr} {c3 : Nat} (h0 : (tImage.sl 96).R w w.heap.size [.slice A0 x.Space.Images.length c0] x.Space.Images) (h1 : (intT.sl 3).R w w.heap.size [.slice A1 x.Space.Bases.length c1] x.Space.Bases) (h2 : (intT.sl 3).R w w.heap.size [.slice A2 x.Space.Entries.length c2] x.Space.Entries) (h3 : (tMachine.sl 80).R w w.heap.size [.slice A3 x.Threads.length c3] x.Threads) (h00 : 0 ≤ left) (h01 : left ≤ 1099511627776) : Calls Try.prog 10 #[.agg #[.slice A0 x.Space.Images.length c0, .slice A1 x.Space.Bases.length c1, .slice A2 x.Space.Entries.length c2, .slice A3 x.Threads.length c3, .int .i64 x.Turn, .int .i64 x.Left, .int .i64 x.Slice], .int .i64 left] w fun e w' => e = .returned (.int .i64 (szRes left (szProcess x))) ∧ Gro w w' := by
  obtain ⟨n0, hn0⟩ : ∃ n, szSpace x.Space = n := ⟨_, rfl⟩
  obtain ⟨n1, hn1⟩ : ∃ n, szL szMachine x.Threads = n := ⟨_, rfl⟩
  have HS := Lib.hid (show szProcess x = n0 + n1 from by unfold szProcess; rw [hn0, hn1])
  have HN0 := Lib.hid hn0
  clear hn0
  have HN1 := Lib.hid hn1
  clear hn1
  by_cases c0' : (n0 : Int) ≤ left
  · skip
    by_cases c1' : (n0 : Int) + (n1 : Int) ≤ left
    · skip
      have e0 : szRes (left) n0 = left - (n0 : Nat) := if_pos (by omega)
      have e1 : szRes (left - (n0 : Nat)) n1 = left - (n0 : Nat) - (n1 : Nat) := if_pos (by omega)
      go_enter Try.func10, Try.ntmps10
      go_wp2_with (first
      | (go_at_call 17; (with_reducible refine (szSpace_l (x := x.Space) (Ty.up _ h0 (by repeat (first | with_reducible exact Gro.refl _ | with_reducible exact Gro.refl_drew _ _ _ | with_reducible exact Gro.refl_drewN _ _ _ _ | assumption | with_reducible apply Gro.more | with_reducible apply Gro.alloc | with_reducible apply Gro.drew | with_reducible apply Gro.drewN))) (Ty.up _ h1 (by repeat (first | with_reducible exact Gro.refl _ | with_reducible exact Gro.refl_drew _ _ _ | with_reducible exact Gro.refl_drewN _ _ _ _ | assumption | with_reducible apply Gro.more | with_reducible apply Gro.alloc | with_reducible apply Gro.drew | with_reducible apply Gro.drewN))) (Ty.up _ h2 (by repeat (first | with_reducible exact Gro.refl _ | with_reducible exact Gro.refl_drew _ _ _ | with_reducible exact Gro.refl_drewN _ _ _ _ | assumption | with_reducible apply Gro.more | with_reducible apply Gro.alloc | with_reducible apply Gro.drew | with_reducible apply Gro.drewN))) (by omega) (by omega)).mono ?_); rintro e w0 ⟨rfl, os0, d0, rfl⟩; rw [HN0.out])
      | (go_at_call 42; (with_reducible refine (szMachineS_l (xs := x.Threads) (Ty.up _ h3 (by repeat (first | with_reducible exact Gro.refl _ | with_reducible exact Gro.refl_drew _ _ _ | with_reducible exact Gro.refl_drewN _ _ _ _ | assumption | with_reducible apply Gro.more | with_reducible apply Gro.alloc | with_reducible apply Gro.drew | with_reducible apply Gro.drewN))) (by omega) (by omega)).mono ?_); rintro e w1 ⟨rfl, os1, d1, rfl⟩; rw [HN1.out]))
      go_ret
      exact ⟨ret_int (by rw [HS.out]; unfold szRes; rw [if_pos (by omega)] <;> omega), (by repeat (first | with_reducible exact Gro.refl _ | with_reducible exact Gro.refl_drew _ _ _ | with_reducible exact Gro.refl_drewN _ _ _ _ | assumption | with_reducible apply Gro.more | with_reducible apply Gro.alloc | with_reducible apply Gro.drew | with_reducible apply Gro.drewN))⟩
    · have e0 : szRes (left) n0 = left - (n0 : Nat) := if_pos (by omega)
      have e1 : szRes (left - (n0 : Nat)) n1 = -1 := if_neg (by omega)
      go_enter Try.func10, Try.ntmps10
      go_wp2_with (first
      | (go_at_call 17; (with_reducible refine (szSpace_l (x := x.Space) (Ty.up _ h0 (by repeat (first | with_reducible exact Gro.refl _ | with_reducible exact Gro.refl_drew _ _ _ | with_reducible exact Gro.refl_drewN _ _ _ _ | assumption | with_reducible apply Gro.more | with_reducible apply Gro.alloc | with_reducible apply Gro.drew | with_reducible apply Gro.drewN))) (Ty.up _ h1 (by repeat (first | with_reducible exact Gro.refl _ | with_reducible exact Gro.refl_drew _ _ _ | with_reducible exact Gro.refl_drewN _ _ _ _ | assumption | with_reducible apply Gro.more | with_reducible apply Gro.alloc | with_reducible apply Gro.drew | with_reducible apply Gro.drewN))) (Ty.up _ h2 (by repeat (first | with_reducible exact Gro.refl _ | with_reducible exact Gro.refl_drew _ _ _ | with_reducible exact Gro.refl_drewN _ _ _ _ | assumption | with_reducible apply Gro.more | with_reducible apply Gro.alloc | with_reducible apply Gro.drew | with_reducible apply Gro.drewN))) (by omega) (by omega)).mono ?_); rintro e w0 ⟨rfl, os0, d0, rfl⟩; rw [HN0.out])
      | (go_at_call 42; (with_reducible refine (szMachineS_l (xs := x.Threads) (Ty.up _ h3 (by repeat (first | with_reducible exact Gro.refl _ | with_reducible exact Gro.refl_drew _ _ _ | with_reducible exact Gro.refl_drewN _ _ _ _ | assumption | with_reducible apply Gro.more | with_reducible apply Gro.alloc | with_reducible apply Gro.drew | with_reducible apply Gro.drewN))) (by omega) (by omega)).mono ?_); rintro e w1 ⟨rfl, os1, d1, rfl⟩; rw [HN1.out]))
      go_ret
      exact ⟨ret_int (by rw [HS.out]; unfold szRes; rw [if_neg (by omega)]), (by repeat (first | with_reducible exact Gro.refl _ | with_reducible exact Gro.refl_drew _ _ _ | with_reducible exact Gro.refl_drewN _ _ _ _ | assumption | with_reducible apply Gro.more | with_reducible apply Gro.alloc | with_reducible apply Gro.drew | with_reducible apply Gro.drewN))⟩
  · have e0 : szRes (left) n0 = -1 := if_neg (by omega)
    go_enter Try.func10, Try.ntmps10
    go_wp2_with (first
      | (go_at_call 17; (with_reducible refine (szSpace_l (x := x.Space) (Ty.up _ h0 (by repeat (first | with_reducible exact Gro.refl _ | with_reducible exact Gro.refl_drew _ _ _ | with_reducible exact Gro.refl_drewN _ _ _ _ | assumption | with_reducible apply Gro.more | with_reducible apply Gro.alloc | with_reducible apply Gro.drew | with_reducible apply Gro.drewN))) (Ty.up _ h1 (by repeat (first | with_reducible exact Gro.refl _ | with_reducible exact Gro.refl_drew _ _ _ | with_reducible exact Gro.refl_drewN _ _ _ _ | assumption | with_reducible apply Gro.more | with_reducible apply Gro.alloc | with_reducible apply Gro.drew | with_reducible apply Gro.drewN))) (Ty.up _ h2 (by repeat (first | with_reducible exact Gro.refl _ | with_reducible exact Gro.refl_drew _ _ _ | with_reducible exact Gro.refl_drewN _ _ _ _ | assumption | with_reducible apply Gro.more | with_reducible apply Gro.alloc | with_reducible apply Gro.drew | with_reducible apply Gro.drewN))) (by omega) (by omega)).mono ?_); rintro e w0 ⟨rfl, os0, d0, rfl⟩; rw [HN0.out]))
    go_ret
    exact ⟨ret_int (by rw [HS.out]; unfold szRes; rw [if_neg (by omega)]), (by repeat (first | with_reducible exact Gro.refl _ | with_reducible exact Gro.refl_drew _ _ _ | with_reducible exact Gro.refl_drewN _ _ _ _ | assumption | with_reducible apply Gro.more | with_reducible apply Gro.alloc | with_reducible apply Gro.drew | with_reducible apply Gro.drewN))⟩
set_option maxRecDepth 100000 in
theorem eqProcess_l {x y : DProcess} {w : World} {A0 : Option Addr} {c0 : Nat} {A1 : Option Addr} {c1 : Nat} {A2 : Option Addr} {c2 : Nat} {A3 : Option Addr} {c3 : Nat} {B0 : Option Addr} {d0 : Nat} {B1 : Option Addr} {d1 : Nat} {B2 : Option Addr} {d2 : Nat} {B3 : Option Addr} {d3 : Nat} (h0 : (tImage.sl 96).R w w.heap.size [.slice A0 x.Space.Images.length c0] x.Space.Images) (h1 : (intT.sl 3).R w w.heap.size [.slice A1 x.Space.Bases.length c1] x.Space.Bases) (h2 : (intT.sl 3).R w w.heap.size [.slice A2 x.Space.Entries.length c2] x.Space.Entries) (h3 : (tMachine.sl 80).R w w.heap.size [.slice A3 x.Threads.length c3] x.Threads) (k0 : (tImage.sl 96).R w w.heap.size [.slice B0 y.Space.Images.length d0] y.Space.Images) (k1 : (intT.sl 3).R w w.heap.size [.slice B1 y.Space.Bases.length d1] y.Space.Bases) (k2 : (intT.sl 3).R w w.heap.size [.slice B2 y.Space.Entries.length d2] y.Space.Entries) (k3 : (tMachine.sl 80).R w w.heap.size [.slice B3 y.Threads.length d3] y.Threads) : Calls Try.prog 14 #[.agg #[.slice A0 x.Space.Images.length c0, .slice A1 x.Space.Bases.length c1, .slice A2 x.Space.Entries.length c2, .slice A3 x.Threads.length c3, .int .i64 x.Turn, .int .i64 x.Left, .int .i64 x.Slice], .agg #[.slice B0 y.Space.Images.length d0, .slice B1 y.Space.Bases.length d1, .slice B2 y.Space.Entries.length d2, .slice B3 y.Threads.length d3, .int .i64 y.Turn, .int .i64 y.Left, .int .i64 y.Slice]] w fun e w' => e = .returned (.bool (decide (x = y))) ∧ Gro w w' := by
  go_enter Try.func14, Try.ntmps14
  go_wp2_with (first
      | (go_at_call 21; (with_reducible refine (eqSpace_l (x := x.Space) (y := y.Space) (Ty.up _ h0 (by repeat (first | with_reducible exact Gro.refl _ | with_reducible exact Gro.refl_drew _ _ _ | with_reducible exact Gro.refl_drewN _ _ _ _ | assumption | with_reducible apply Gro.more | with_reducible apply Gro.alloc | with_reducible apply Gro.drew | with_reducible apply Gro.drewN))) (Ty.up _ h1 (by repeat (first | with_reducible exact Gro.refl _ | with_reducible exact Gro.refl_drew _ _ _ | with_reducible exact Gro.refl_drewN _ _ _ _ | assumption | with_reducible apply Gro.more | with_reducible apply Gro.alloc | with_reducible apply Gro.drew | with_reducible apply Gro.drewN))) (Ty.up _ h2 (by repeat (first | with_reducible exact Gro.refl _ | with_reducible exact Gro.refl_drew _ _ _ | with_reducible exact Gro.refl_drewN _ _ _ _ | assumption | with_reducible apply Gro.more | with_reducible apply Gro.alloc | with_reducible apply Gro.drew | with_reducible apply Gro.drewN))) (Ty.up _ k0 (by repeat (first | with_reducible exact Gro.refl _ | with_reducible exact Gro.refl_drew _ _ _ | with_reducible exact Gro.refl_drewN _ _ _ _ | assumption | with_reducible apply Gro.more | with_reducible apply Gro.alloc | with_reducible apply Gro.drew | with_reducible apply Gro.drewN))) (Ty.up _ k1 (by repeat (first | with_reducible exact Gro.refl _ | with_reducible exact Gro.refl_drew _ _ _ | with_reducible exact Gro.refl_drewN _ _ _ _ | assumption | with_reducible apply Gro.more | with_reducible apply Gro.alloc | with_reducible apply Gro.drew | with_reducible apply Gro.drewN))) (Ty.up _ k2 (by repeat (first | with_reducible exact Gro.refl _ | with_reducible exact Gro.refl_drew _ _ _ | with_reducible exact Gro.refl_drewN _ _ _ _ | assumption | with_reducible apply Gro.more | with_reducible apply Gro.alloc | with_reducible apply Gro.drew | with_reducible apply Gro.drewN)))).mono ?_); rintro e w0 ⟨rfl, os0, d0, rfl⟩)
      | (go_at_call 50; (with_reducible refine (eqMachineS_l (xs := x.Threads) (ys := y.Threads) (Ty.up _ h3 (by repeat (first | with_reducible exact Gro.refl _ | with_reducible exact Gro.refl_drew _ _ _ | with_reducible exact Gro.refl_drewN _ _ _ _ | assumption | with_reducible apply Gro.more | with_reducible apply Gro.alloc | with_reducible apply Gro.drew | with_reducible apply Gro.drewN))) (Ty.up _ k3 (by repeat (first | with_reducible exact Gro.refl _ | with_reducible exact Gro.refl_drew _ _ _ | with_reducible exact Gro.refl_drewN _ _ _ _ | assumption | with_reducible apply Gro.more | with_reducible apply Gro.alloc | with_reducible apply Gro.drew | with_reducible apply Gro.drewN)))).mono ?_); rintro e w1 ⟨rfl, os1, d1, rfl⟩))
  all_goals
    go_ret
    refine ⟨ret_bool ?_, (by repeat (first | with_reducible exact Gro.refl _ | with_reducible exact Gro.refl_drew _ _ _ | with_reducible exact Gro.refl_drewN _ _ _ _ | assumption | with_reducible apply Gro.more | with_reducible apply Gro.alloc | with_reducible apply Gro.drew | with_reducible apply Gro.drewN))⟩
    simp_all [eq_DProcess]
def cntProcess (x : DProcess) : Nat := cntSpace x.Space + cntMachineS x.Threads
def mkProcess (x : DProcess) (k : Int) : DProcess := { x with Space := mkSpace x.Space k, Threads := mkMachineS x.Threads (k + (cntSpace x.Space : Nat)) }
set_option maxRecDepth 100000 in
theorem markProcess_l {x : DProcess} {w : World} {k : Int} {S : List Nat} {A0 : Option Addr} {c0 : Nat} {A1 : Option Addr} {c1 : Nat} {A2 : Option Addr} {c2 : Nat} {A3 : Option Addr} {c3 : Nat} (hO : tProcess.O w [.slice A0 x.Space.Images.length c0, .slice A1 x.Space.Bases.length c1, .slice A2 x.Space.Entries.length c2, .slice A3 x.Threads.length c3, .int .i64 x.Turn, .int .i64 x.Left, .int .i64 x.Slice] x S) (hS : S.Nodup) (h00 : 0 < k) (h01 : k + (cntProcess x : Nat) ≤ 1099511627776) : Calls Try.prog 23 #[.agg #[.slice A0 x.Space.Images.length c0, .slice A1 x.Space.Bases.length c1, .slice A2 x.Space.Entries.length c2, .slice A3 x.Threads.length c3, .int .i64 x.Turn, .int .i64 x.Left, .int .i64 x.Slice], .int .i64 k] w fun e w' => e = .returned (.int .i64 (k + (cntProcess x : Nat))) ∧ tProcess.O w' [.slice A0 x.Space.Images.length c0, .slice A1 x.Space.Bases.length c1, .slice A2 x.Space.Entries.length c2, .slice A3 x.Threads.length c3, .int .i64 x.Turn, .int .i64 x.Left, .int .i64 x.Slice] (mkProcess x k) S ∧ OnlyS S w w' := by
  obtain ⟨A0', c0', S0, A1', c1', S1, A2', c2', S2, A3', c3', S3, hcl, rfl, h0, h1, h2, h3, h4, h5, h6⟩ := tProcess_O hO
  simp only [List.cons.injEq, Value.slice.injEq, true_and, and_true] at hcl
  obtain ⟨⟨rfl, rfl⟩, ⟨rfl, rfl⟩, ⟨rfl, rfl⟩, ⟨rfl, rfl⟩⟩ := hcl
  have hlt := Ty.ltO _ hO
  unfold cntProcess at h01 ⊢
  obtain ⟨hN0, hN1, hD01, hD10⟩ := nd2 hS
  have hO0 := (tSpace_mkO A0 c0 _ A1 c1 _ A2 c2 _ h0 h1 h2)
  have hL0 := Ty.ltO _ hO0
  have hO1 := h3
  have hL1 := Ty.ltO _ hO1
  go_enter Try.func23, Try.ntmps23
  go_wp2_with (fail)
  refine (markSpace_l (x := x.Space) (Ty.groO _ hO0 (by repeat (first | with_reducible exact Gro.refl _ | with_reducible exact Gro.refl_drew _ _ _ | with_reducible exact Gro.refl_drewN _ _ _ _ | assumption | with_reducible apply Gro.more | with_reducible apply Gro.alloc | with_reducible apply Gro.drew | with_reducible apply Gro.drewN))) hN0 (by omega) (by omega)).mono ?_
  rintro e w1 ⟨rfl, hM0, hs1⟩
  have hO1_0 := keepOnly _ hO1 hs1 (by repeat (first | with_reducible exact Gro.refl _ | with_reducible exact Gro.refl_drew _ _ _ | with_reducible exact Gro.refl_drewN _ _ _ _ | assumption | with_reducible apply Gro.more | with_reducible apply Gro.alloc | with_reducible apply Gro.drew | with_reducible apply Gro.drewN)) hD10
  have hc1_0 : w1.cell? ⟨w.heap.size, 0, none⟩ = some (.slice A0 x.Space.Images.length c0) := (hs1.cell (by simp) (fun hm => by have := hL0 _ hm; omega) 0).trans (by simp [go_sem])
  have hc1_1 : w1.cell? ⟨w.heap.size, 1, none⟩ = some (.slice A1 x.Space.Bases.length c1) := (hs1.cell (by simp) (fun hm => by have := hL0 _ hm; omega) 1).trans (by simp [go_sem])
  have hc1_2 : w1.cell? ⟨w.heap.size, 2, none⟩ = some (.slice A2 x.Space.Entries.length c2) := (hs1.cell (by simp) (fun hm => by have := hL0 _ hm; omega) 2).trans (by simp [go_sem])
  have hc1_3 : w1.cell? ⟨w.heap.size, 3, none⟩ = some (.slice A3 x.Threads.length c3) := (hs1.cell (by simp) (fun hm => by have := hL0 _ hm; omega) 3).trans (by simp [go_sem])
  have hc1_4 : w1.cell? ⟨w.heap.size, 4, none⟩ = some (.int .i64 x.Turn) := (hs1.cell (by simp) (fun hm => by have := hL0 _ hm; omega) 4).trans (by simp [go_sem])
  have hc1_5 : w1.cell? ⟨w.heap.size, 5, none⟩ = some (.int .i64 x.Left) := (hs1.cell (by simp) (fun hm => by have := hL0 _ hm; omega) 5).trans (by simp [go_sem])
  have hc1_6 : w1.cell? ⟨w.heap.size, 6, none⟩ = some (.int .i64 x.Slice) := (hs1.cell (by simp) (fun hm => by have := hL0 _ hm; omega) 6).trans (by simp [go_sem])
  have hcb1 : w.heap.size < w1.heap.size := Nat.lt_of_lt_of_le (by simp) hs1.size
  go_wp2_with (fail)
  refine (markMachineS_l (xs := x.Threads) (Ty.groO _ hO1_0 (by repeat (first | with_reducible exact Gro.refl _ | with_reducible exact Gro.refl_drew _ _ _ | with_reducible exact Gro.refl_drewN _ _ _ _ | assumption | with_reducible apply Gro.more | with_reducible apply Gro.alloc | with_reducible apply Gro.drew | with_reducible apply Gro.drewN))) hN1 (by omega) (by omega)).mono ?_
  rintro e w2 ⟨rfl, hM1, hs2⟩
  have hM0_1 := keepOnly _ hM0 hs2 (by repeat (first | with_reducible exact Gro.refl _ | with_reducible exact Gro.refl_drew _ _ _ | with_reducible exact Gro.refl_drewN _ _ _ _ | assumption | with_reducible apply Gro.more | with_reducible apply Gro.alloc | with_reducible apply Gro.drew | with_reducible apply Gro.drewN)) hD01
  replace hM0 := hM0_1
  go_wp2
  go_ret
  refine ⟨ret_int (by push_cast; omega), ?_, (((Gro.only (by repeat (first | with_reducible exact Gro.refl _ | with_reducible exact Gro.refl_drew _ _ _ | with_reducible exact Gro.refl_drewN _ _ _ _ | assumption | with_reducible apply Gro.more | with_reducible apply Gro.alloc | with_reducible apply Gro.drew | with_reducible apply Gro.drewN)) _).trans (hs1.mono (fun b hb => by first | (simp [hb]; done) | (simp at hb ⊢; rcases hb with h | h | h <;> simp [h])))).trans (hs2.mono (fun b hb => by simp [hb])))⟩
  have h := tProcess_mkOd (w := w2) (x := mkProcess x k) (by simpa [mkProcess, mkSpace, mkImageS_length, mkInts_length, mkMachineS_length] using hM0) (by simpa [mkProcess, mkSpace, mkImageS_length, mkInts_length, mkMachineS_length] using hM1) (by simpa [mkProcess] using h4) (by simpa [mkProcess] using h5) (by simpa [mkProcess] using h6)
  simpa [mkProcess, mkSpace, mkImageS_length, mkInts_length, mkMachineS_length] using h
theorem mkProcess_read {x : DProcess} {w : World} {k : Int} {S : List Nat} {A0 : Option Addr} {c0 : Nat} {A1 : Option Addr} {c1 : Nat} {A2 : Option Addr} {c2 : Nat} {A3 : Option Addr} {c3 : Nat} (hO : tProcess.O w [.slice A0 x.Space.Images.length c0, .slice A1 x.Space.Bases.length c1, .slice A2 x.Space.Entries.length c2, .slice A3 x.Threads.length c3, .int .i64 x.Turn, .int .i64 x.Left, .int .i64 x.Slice] (mkProcess x k) S) : (tImage.sl 96).R w w.heap.size [.slice A0 x.Space.Images.length c0] (mkProcess x k).Space.Images ∧ (intT.sl 3).R w w.heap.size [.slice A1 x.Space.Bases.length c1] (mkProcess x k).Space.Bases ∧ (intT.sl 3).R w w.heap.size [.slice A2 x.Space.Entries.length c2] (mkProcess x k).Space.Entries ∧ (tMachine.sl 80).R w w.heap.size [.slice A3 x.Threads.length c3] (mkProcess x k).Threads := by
  obtain ⟨A0', c0', S0, A1', c1', S1, A2', c2', S2, A3', c3', S3, hcl, rfl, h0, h1, h2, h3, h4, h5, h6⟩ := tProcess_O hO
  simp only [List.cons.injEq, Value.slice.injEq, true_and, and_true] at hcl
  have eh0 : (mkProcess x k).Space.Images.length = x.Space.Images.length := by simp [mkProcess, mkSpace, mkImageS_length, mkInts_length, mkMachineS_length]
  have eh1 : (mkProcess x k).Space.Bases.length = x.Space.Bases.length := by simp [mkProcess, mkSpace, mkImageS_length, mkInts_length, mkMachineS_length]
  have eh2 : (mkProcess x k).Space.Entries.length = x.Space.Entries.length := by simp [mkProcess, mkSpace, mkImageS_length, mkInts_length, mkMachineS_length]
  have eh3 : (mkProcess x k).Threads.length = x.Threads.length := by simp [mkProcess, mkSpace, mkImageS_length, mkInts_length, mkMachineS_length]
  have es0 : (mkProcess x k).Turn = x.Turn := by first | rfl | simp [mkProcess, mkSpace, mkImageS_length, mkInts_length, mkMachineS_length]
  have es1 : (mkProcess x k).Left = x.Left := by first | rfl | simp [mkProcess, mkSpace, mkImageS_length, mkInts_length, mkMachineS_length]
  have es2 : (mkProcess x k).Slice = x.Slice := by first | rfl | simp [mkProcess, mkSpace, mkImageS_length, mkInts_length, mkMachineS_length]
  simp only [eh0, eh1, eh2, eh3, es0, es1, es2, true_and, and_true] at hcl
  obtain ⟨⟨rfl, rfl⟩, ⟨rfl, rfl⟩, ⟨rfl, rfl⟩, ⟨rfl, rfl⟩⟩ := hcl
  rw [eh0] at h0
  rw [eh1] at h1
  rw [eh2] at h2
  rw [eh3] at h3
  exact ⟨Ty.read _ h0, Ty.read _ h1, Ty.read _ h2, Ty.read _ h3⟩
set_option maxRecDepth 100000 in
theorem heldProcess_l {x : DProcess} {w : World} {k : Int} {A0 : Option Addr} {c0 : Nat} {A1 : Option Addr} {c1 : Nat} {A2 : Option Addr} {c2 : Nat} {A3 : Option Addr} {c3 : Nat} (h0 : (tImage.sl 96).R w w.heap.size [.slice A0 x.Space.Images.length c0] (mkProcess x k).Space.Images) (h1 : (intT.sl 3).R w w.heap.size [.slice A1 x.Space.Bases.length c1] (mkProcess x k).Space.Bases) (h2 : (intT.sl 3).R w w.heap.size [.slice A2 x.Space.Entries.length c2] (mkProcess x k).Space.Entries) (h3 : (tMachine.sl 80).R w w.heap.size [.slice A3 x.Threads.length c3] (mkProcess x k).Threads) (h00 : 0 < k) (h01 : k + (cntProcess x : Nat) ≤ 1099511627776) : Calls Try.prog 24 #[.agg #[.slice A0 x.Space.Images.length c0, .slice A1 x.Space.Bases.length c1, .slice A2 x.Space.Entries.length c2, .slice A3 x.Threads.length c3, .int .i64 x.Turn, .int .i64 x.Left, .int .i64 x.Slice], .int .i64 k] w fun e w' => e = .returned (.int .i64 (k + (cntProcess x : Nat))) ∧ Gro w w' := by
  unfold cntProcess at h01 ⊢
  go_enter Try.func24, Try.ntmps24
  go_wp2_with (fail)
  refine (heldSpace_l (x := x.Space) (Ty.up _ h0 (by repeat (first | with_reducible exact Gro.refl _ | with_reducible exact Gro.refl_drew _ _ _ | with_reducible exact Gro.refl_drewN _ _ _ _ | assumption | with_reducible apply Gro.more | with_reducible apply Gro.alloc | with_reducible apply Gro.drew | with_reducible apply Gro.drewN))) (Ty.up _ h1 (by repeat (first | with_reducible exact Gro.refl _ | with_reducible exact Gro.refl_drew _ _ _ | with_reducible exact Gro.refl_drewN _ _ _ _ | assumption | with_reducible apply Gro.more | with_reducible apply Gro.alloc | with_reducible apply Gro.drew | with_reducible apply Gro.drewN))) (Ty.up _ h2 (by repeat (first | with_reducible exact Gro.refl _ | with_reducible exact Gro.refl_drew _ _ _ | with_reducible exact Gro.refl_drewN _ _ _ _ | assumption | with_reducible apply Gro.more | with_reducible apply Gro.alloc | with_reducible apply Gro.drew | with_reducible apply Gro.drewN))) (by omega) (by omega)).mono ?_
  rintro e w1 ⟨rfl, os1, d1, rfl⟩
  go_wp2_with (fail)
  refine (heldMachineS_l (xs := x.Threads) (Ty.up _ h3 (by repeat (first | with_reducible exact Gro.refl _ | with_reducible exact Gro.refl_drew _ _ _ | with_reducible exact Gro.refl_drewN _ _ _ _ | assumption | with_reducible apply Gro.more | with_reducible apply Gro.alloc | with_reducible apply Gro.drew | with_reducible apply Gro.drewN))) (by omega) (by omega)).mono ?_
  rintro e w2 ⟨rfl, os2, d2, rfl⟩
  go_wp2
  go_ret
  exact ⟨ret_int (by push_cast; omega), (by repeat (first | with_reducible exact Gro.refl _ | with_reducible exact Gro.refl_drew _ _ _ | with_reducible exact Gro.refl_drewN _ _ _ _ | assumption | with_reducible apply Gro.more | with_reducible apply Gro.alloc | with_reducible apply Gro.drew | with_reducible apply Gro.drewN))⟩
end Go.Proofs.Ytbhobjepjaeffaa
namespace Go.Proofs.Ytbhobjepjaeffaa
open Go.RowKit
def machineOk (m : DMachine) : Bool := decide (m.Stack.length = 1200) && btw m.Sp 0 1200 && btw m.State 0 2
def procOk (x : DProcess) : Bool := spaceOk x.Space && btw x.Threads.length 1 3 && btw x.Turn 0 ((x.Threads.length : Int) - 1) && btw x.Slice 1 1000 && btw x.Left 1 x.Slice && x.Threads.all machineOk
set_option maxRecDepth 100000 in
theorem machineOk_i {m : DMachine} {w : World} {A0 A1 : Option Addr} {c0 c1 : Nat} (hn : m.Stack.length ≤ 1099511627776) : Calls Try.prog 49 #[.agg #[.int .i64 m.Pc, .int .i64 m.Sp, .int .i64 m.Fp, .slice A0 m.Stack.length c0, .slice A1 m.Out.length c1, .int .i64 m.State, .int .i64 m.Value]] w fun r w' => r = .returned (.bool (machineOk m)) ∧ Gro w w' := by
  by_cases q : m.Stack.length = 1200
  case neg =>
    have HQ := Lib.hid (show machineOk m = false from by simp [machineOk, q])
    have p1 : ((m.Stack.length : Int) == 1200) = false := by simp; omega
    clear q
    go_enter Try.func49, Try.ntmps49
    go_wp2_with (fail)
    go_ret
    exact ⟨ret_bool HQ.out.symm, (by repeat (first | with_reducible exact Gro.refl _ | with_reducible exact Gro.refl_drew _ _ _ | with_reducible exact Gro.refl_drewN _ _ _ _ | assumption | with_reducible apply Gro.more | with_reducible apply Gro.alloc | with_reducible apply Gro.drew | with_reducible apply Gro.drewN))⟩
  have p1 : ((m.Stack.length : Int) == 1200) = true := by simp; omega
  obtain ⟨b1, h1⟩ : ∃ b, btw m.Sp 0 1200 = b := ⟨_, rfl⟩
  obtain ⟨b2, h2⟩ : ∃ b, btw m.State 0 2 = b := ⟨_, rfl⟩
  have HQ := Lib.hid (show machineOk m = (b1 && b2) from by simp [machineOk, q, h1, h2])
  have H1 := Lib.hid h1
  have H2 := Lib.hid h2
  clear q h1 h2
  cases b1 with
  | false =>
    go_enter Try.func49, Try.ntmps49
    go_wp2_with (go_at_call 48; (with_reducible refine (in_i _ _ _ _).mono ?_); first | (rw [H1.out]; rintro e w1 ⟨rfl, rfl⟩))
    go_ret
    exact ⟨ret_bool HQ.out.symm, (by repeat (first | with_reducible exact Gro.refl _ | with_reducible exact Gro.refl_drew _ _ _ | with_reducible exact Gro.refl_drewN _ _ _ _ | assumption | with_reducible apply Gro.more | with_reducible apply Gro.alloc | with_reducible apply Gro.drew | with_reducible apply Gro.drewN))⟩
  | true =>
    go_enter Try.func49, Try.ntmps49
    go_wp2_with (go_at_call 48; (with_reducible refine (in_i _ _ _ _).mono ?_); first | (rw [H1.out]; rintro e w1 ⟨rfl, rfl⟩) | (rw [H2.out]; rintro e w1 ⟨rfl, rfl⟩))
    go_ret
    exact ⟨ret_bool (by rw [HQ.out]; rfl), (by repeat (first | with_reducible exact Gro.refl _ | with_reducible exact Gro.refl_drew _ _ _ | with_reducible exact Gro.refl_drewN _ _ _ _ | assumption | with_reducible apply Gro.more | with_reducible apply Gro.alloc | with_reducible apply Gro.drew | with_reducible apply Gro.drewN))⟩
set_option maxRecDepth 100000 in
theorem machineOk_s {m : DMachine} {w : World} {A0 A1 : Option Addr} {c0 c1 : Nat} (hn : m.Stack.length ≤ 1099511627776) : Calls Try.prog 45 #[.agg #[.int .i64 m.Pc, .int .i64 m.Sp, .int .i64 m.Fp, .slice A0 m.Stack.length c0, .slice A1 m.Out.length c1, .int .i64 m.State, .int .i64 m.Value]] w fun r w' => r = .returned (.bool (machineOk m)) ∧ Gro w w' := by
  by_cases q : m.Stack.length = 1200
  case neg =>
    have HQ := Lib.hid (show machineOk m = false from by simp [machineOk, q])
    have p1 : ((m.Stack.length : Int) == 1200) = false := by simp; omega
    clear q
    go_enter Try.func45, Try.ntmps45
    go_wp2_with (fail)
    go_ret
    exact ⟨ret_bool HQ.out.symm, (by repeat (first | with_reducible exact Gro.refl _ | with_reducible exact Gro.refl_drew _ _ _ | with_reducible exact Gro.refl_drewN _ _ _ _ | assumption | with_reducible apply Gro.more | with_reducible apply Gro.alloc | with_reducible apply Gro.drew | with_reducible apply Gro.drewN))⟩
  have p1 : ((m.Stack.length : Int) == 1200) = true := by simp; omega
  obtain ⟨b1, h1⟩ : ∃ b, btw m.Sp 0 1200 = b := ⟨_, rfl⟩
  obtain ⟨b2, h2⟩ : ∃ b, btw m.State 0 2 = b := ⟨_, rfl⟩
  have HQ := Lib.hid (show machineOk m = (b1 && b2) from by simp [machineOk, q, h1, h2])
  have H1 := Lib.hid h1
  have H2 := Lib.hid h2
  clear q h1 h2
  cases b1 with
  | false =>
    go_enter Try.func45, Try.ntmps45
    go_wp2_with (go_at_call 44; (with_reducible refine (in_s _ _ _ _).mono ?_); first | (rw [H1.out]; rintro e w1 ⟨rfl, rfl⟩))
    go_ret
    exact ⟨ret_bool HQ.out.symm, (by repeat (first | with_reducible exact Gro.refl _ | with_reducible exact Gro.refl_drew _ _ _ | with_reducible exact Gro.refl_drewN _ _ _ _ | assumption | with_reducible apply Gro.more | with_reducible apply Gro.alloc | with_reducible apply Gro.drew | with_reducible apply Gro.drewN))⟩
  | true =>
    go_enter Try.func45, Try.ntmps45
    go_wp2_with (go_at_call 44; (with_reducible refine (in_s _ _ _ _).mono ?_); first | (rw [H1.out]; rintro e w1 ⟨rfl, rfl⟩) | (rw [H2.out]; rintro e w1 ⟨rfl, rfl⟩))
    go_ret
    exact ⟨ret_bool (by rw [HQ.out]; rfl), (by repeat (first | with_reducible exact Gro.refl _ | with_reducible exact Gro.refl_drew _ _ _ | with_reducible exact Gro.refl_drewN _ _ _ _ | assumption | with_reducible apply Gro.more | with_reducible apply Gro.alloc | with_reducible apply Gro.drew | with_reducible apply Gro.drewN))⟩
set_option maxRecDepth 100000 in
set_option maxHeartbeats 4000000 in
theorem procOk_i {x : DProcess} {w : World} {A0 A1 A2 A3 : Option Addr} {c0 c1 c2 c3 : Nat} (h0 : (tImage.sl 96).R w w.heap.size [.slice A0 x.Space.Images.length c0] x.Space.Images) (h1 : (intT.sl 3).R w w.heap.size [.slice A1 x.Space.Bases.length c1] x.Space.Bases)
    (h2 : (intT.sl 3).R w w.heap.size [.slice A2 x.Space.Entries.length c2] x.Space.Entries) (h3 : (tMachine.sl 80).R w w.heap.size [.slice A3 x.Threads.length c3] x.Threads) (hs : szProcess x ≤ 1099511627776) :
    Calls Try.prog 13 #[.agg #[.slice A0 x.Space.Images.length c0, .slice A1 x.Space.Bases.length c1, .slice A2 x.Space.Entries.length c2, .slice A3 x.Threads.length c3, .int .i64 x.Turn, .int .i64 x.Left, .int .i64 x.Slice]] w fun r w' => r = .returned (.bool (procOk x)) ∧ Gro w w' := by
  have hsp : szSpace x.Space ≤ 1099511627776 := by unfold szProcess at hs; omega
  have hth : szL szMachine x.Threads ≤ 1099511627776 := by unfold szProcess at hs; omega
  obtain ⟨_, _, hx', htl, htm⟩ := sl_at h3
  injection hx' with e1 e2 e3
  subst e1 e3
  clear e2 hs
  obtain ⟨b0, q0⟩ : ∃ b, spaceOk x.Space = b := ⟨_, rfl⟩
  obtain ⟨b1, q1⟩ : ∃ b, btw x.Threads.length 1 3 = b := ⟨_, rfl⟩
  obtain ⟨b2, q2⟩ : ∃ b, btw x.Turn 0 ((x.Threads.length : Int) - 1) = b := ⟨_, rfl⟩
  obtain ⟨b3, q3⟩ : ∃ b, btw x.Slice 1 1000 = b := ⟨_, rfl⟩
  obtain ⟨b4, q4⟩ : ∃ b, btw x.Left 1 x.Slice = b := ⟨_, rfl⟩
  have HQ := Lib.hid (show procOk x = (b0 && b1 && b2 && b3 && b4 && x.Threads.all machineOk) from by unfold procOk; rw [q0, q1, q2, q3, q4])
  have H0 := Lib.hid q0
  have H1 := Lib.hid q1
  have H2 := Lib.hid q2
  have H3 := Lib.hid q3
  have H4 := Lib.hid q4
  have w1 : IntKind.i64.wrap ((x.Threads.length : Int) - 1) = (x.Threads.length : Int) - 1 := IntWalk.i64_in _ ⟨by omega, by omega⟩
  clear q0 q1 q2 q3 q4
  cases b0 with
  | false =>
    have HF := Lib.hid (show procOk x = false from by rw [HQ.out]; simp)
    go_enter Try.func13, Try.ntmps13
    go_wp2_with (go_at_call 47; (with_reducible refine (spaceOk_i (s := x.Space) (Ty.up _ h0 (by repeat (first | with_reducible exact Gro.refl _ | with_reducible exact Gro.refl_drew _ _ _ | with_reducible exact Gro.refl_drewN _ _ _ _ | assumption | with_reducible apply Gro.more | with_reducible apply Gro.alloc | with_reducible apply Gro.drew | with_reducible apply Gro.drewN))) (Ty.up _ h1 (by repeat (first | with_reducible exact Gro.refl _ | with_reducible exact Gro.refl_drew _ _ _ | with_reducible exact Gro.refl_drewN _ _ _ _ | assumption | with_reducible apply Gro.more | with_reducible apply Gro.alloc | with_reducible apply Gro.drew | with_reducible apply Gro.drewN))) (Ty.up _ h2 (by repeat (first | with_reducible exact Gro.refl _ | with_reducible exact Gro.refl_drew _ _ _ | with_reducible exact Gro.refl_drewN _ _ _ _ | assumption | with_reducible apply Gro.more | with_reducible apply Gro.alloc | with_reducible apply Gro.drew | with_reducible apply Gro.drewN))) hsp).mono ?_); rw [H0.out]; rintro e w1 ⟨rfl, os1, d1, rfl⟩)
    go_ret
    exact ⟨ret_bool HF.out.symm, (by repeat (first | with_reducible exact Gro.refl _ | with_reducible exact Gro.refl_drew _ _ _ | with_reducible exact Gro.refl_drewN _ _ _ _ | assumption | with_reducible apply Gro.more | with_reducible apply Gro.alloc | with_reducible apply Gro.drew | with_reducible apply Gro.drewN))⟩
  | true =>
  cases b1 with
  | false =>
    have HF := Lib.hid (show procOk x = false from by rw [HQ.out]; simp)
    go_enter Try.func13, Try.ntmps13
    go_wp2_with (first
      | (go_at_call 47; (with_reducible refine (spaceOk_i (s := x.Space) (Ty.up _ h0 (by repeat (first | with_reducible exact Gro.refl _ | with_reducible exact Gro.refl_drew _ _ _ | with_reducible exact Gro.refl_drewN _ _ _ _ | assumption | with_reducible apply Gro.more | with_reducible apply Gro.alloc | with_reducible apply Gro.drew | with_reducible apply Gro.drewN))) (Ty.up _ h1 (by repeat (first | with_reducible exact Gro.refl _ | with_reducible exact Gro.refl_drew _ _ _ | with_reducible exact Gro.refl_drewN _ _ _ _ | assumption | with_reducible apply Gro.more | with_reducible apply Gro.alloc | with_reducible apply Gro.drew | with_reducible apply Gro.drewN))) (Ty.up _ h2 (by repeat (first | with_reducible exact Gro.refl _ | with_reducible exact Gro.refl_drew _ _ _ | with_reducible exact Gro.refl_drewN _ _ _ _ | assumption | with_reducible apply Gro.more | with_reducible apply Gro.alloc | with_reducible apply Gro.drew | with_reducible apply Gro.drewN))) hsp).mono ?_); rw [H0.out]; rintro e w1 ⟨rfl, os1, d1, rfl⟩)
      | (go_at_call 48; (with_reducible refine (in_i _ _ _ _).mono ?_); first | (rw [H1.out]; rintro e w1 ⟨rfl, rfl⟩)))
    go_ret
    exact ⟨ret_bool HF.out.symm, (by repeat (first | with_reducible exact Gro.refl _ | with_reducible exact Gro.refl_drew _ _ _ | with_reducible exact Gro.refl_drewN _ _ _ _ | assumption | with_reducible apply Gro.more | with_reducible apply Gro.alloc | with_reducible apply Gro.drew | with_reducible apply Gro.drewN))⟩
  | true =>
  cases b2 with
  | false =>
    have HF := Lib.hid (show procOk x = false from by rw [HQ.out]; simp)
    go_enter Try.func13, Try.ntmps13
    go_wp2_with (first
      | (go_at_call 47; (with_reducible refine (spaceOk_i (s := x.Space) (Ty.up _ h0 (by repeat (first | with_reducible exact Gro.refl _ | with_reducible exact Gro.refl_drew _ _ _ | with_reducible exact Gro.refl_drewN _ _ _ _ | assumption | with_reducible apply Gro.more | with_reducible apply Gro.alloc | with_reducible apply Gro.drew | with_reducible apply Gro.drewN))) (Ty.up _ h1 (by repeat (first | with_reducible exact Gro.refl _ | with_reducible exact Gro.refl_drew _ _ _ | with_reducible exact Gro.refl_drewN _ _ _ _ | assumption | with_reducible apply Gro.more | with_reducible apply Gro.alloc | with_reducible apply Gro.drew | with_reducible apply Gro.drewN))) (Ty.up _ h2 (by repeat (first | with_reducible exact Gro.refl _ | with_reducible exact Gro.refl_drew _ _ _ | with_reducible exact Gro.refl_drewN _ _ _ _ | assumption | with_reducible apply Gro.more | with_reducible apply Gro.alloc | with_reducible apply Gro.drew | with_reducible apply Gro.drewN))) hsp).mono ?_); rw [H0.out]; rintro e w1 ⟨rfl, os1, d1, rfl⟩)
      | (go_at_call 48; (with_reducible refine (in_i _ _ _ _).mono ?_); first | (rw [H1.out]; rintro e w1 ⟨rfl, rfl⟩) | (rw [H2.out]; rintro e w1 ⟨rfl, rfl⟩)))
    go_ret
    exact ⟨ret_bool HF.out.symm, (by repeat (first | with_reducible exact Gro.refl _ | with_reducible exact Gro.refl_drew _ _ _ | with_reducible exact Gro.refl_drewN _ _ _ _ | assumption | with_reducible apply Gro.more | with_reducible apply Gro.alloc | with_reducible apply Gro.drew | with_reducible apply Gro.drewN))⟩
  | true =>
  cases b3 with
  | false =>
    have HF := Lib.hid (show procOk x = false from by rw [HQ.out]; simp)
    go_enter Try.func13, Try.ntmps13
    go_wp2_with (first
      | (go_at_call 47; (with_reducible refine (spaceOk_i (s := x.Space) (Ty.up _ h0 (by repeat (first | with_reducible exact Gro.refl _ | with_reducible exact Gro.refl_drew _ _ _ | with_reducible exact Gro.refl_drewN _ _ _ _ | assumption | with_reducible apply Gro.more | with_reducible apply Gro.alloc | with_reducible apply Gro.drew | with_reducible apply Gro.drewN))) (Ty.up _ h1 (by repeat (first | with_reducible exact Gro.refl _ | with_reducible exact Gro.refl_drew _ _ _ | with_reducible exact Gro.refl_drewN _ _ _ _ | assumption | with_reducible apply Gro.more | with_reducible apply Gro.alloc | with_reducible apply Gro.drew | with_reducible apply Gro.drewN))) (Ty.up _ h2 (by repeat (first | with_reducible exact Gro.refl _ | with_reducible exact Gro.refl_drew _ _ _ | with_reducible exact Gro.refl_drewN _ _ _ _ | assumption | with_reducible apply Gro.more | with_reducible apply Gro.alloc | with_reducible apply Gro.drew | with_reducible apply Gro.drewN))) hsp).mono ?_); rw [H0.out]; rintro e w1 ⟨rfl, os1, d1, rfl⟩)
      | (go_at_call 48; (with_reducible refine (in_i _ _ _ _).mono ?_); first | (rw [H1.out]; rintro e w1 ⟨rfl, rfl⟩) | (rw [H2.out]; rintro e w1 ⟨rfl, rfl⟩) | (rw [H3.out]; rintro e w1 ⟨rfl, rfl⟩)))
    go_ret
    exact ⟨ret_bool HF.out.symm, (by repeat (first | with_reducible exact Gro.refl _ | with_reducible exact Gro.refl_drew _ _ _ | with_reducible exact Gro.refl_drewN _ _ _ _ | assumption | with_reducible apply Gro.more | with_reducible apply Gro.alloc | with_reducible apply Gro.drew | with_reducible apply Gro.drewN))⟩
  | true =>
  cases b4 with
  | false =>
    have HF := Lib.hid (show procOk x = false from by rw [HQ.out]; simp)
    go_enter Try.func13, Try.ntmps13
    go_wp2_with (first
      | (go_at_call 47; (with_reducible refine (spaceOk_i (s := x.Space) (Ty.up _ h0 (by repeat (first | with_reducible exact Gro.refl _ | with_reducible exact Gro.refl_drew _ _ _ | with_reducible exact Gro.refl_drewN _ _ _ _ | assumption | with_reducible apply Gro.more | with_reducible apply Gro.alloc | with_reducible apply Gro.drew | with_reducible apply Gro.drewN))) (Ty.up _ h1 (by repeat (first | with_reducible exact Gro.refl _ | with_reducible exact Gro.refl_drew _ _ _ | with_reducible exact Gro.refl_drewN _ _ _ _ | assumption | with_reducible apply Gro.more | with_reducible apply Gro.alloc | with_reducible apply Gro.drew | with_reducible apply Gro.drewN))) (Ty.up _ h2 (by repeat (first | with_reducible exact Gro.refl _ | with_reducible exact Gro.refl_drew _ _ _ | with_reducible exact Gro.refl_drewN _ _ _ _ | assumption | with_reducible apply Gro.more | with_reducible apply Gro.alloc | with_reducible apply Gro.drew | with_reducible apply Gro.drewN))) hsp).mono ?_); rw [H0.out]; rintro e w1 ⟨rfl, os1, d1, rfl⟩)
      | (go_at_call 48; (with_reducible refine (in_i _ _ _ _).mono ?_); first | (rw [H1.out]; rintro e w1 ⟨rfl, rfl⟩) | (rw [H2.out]; rintro e w1 ⟨rfl, rfl⟩) | (rw [H3.out]; rintro e w1 ⟨rfl, rfl⟩) | (rw [H4.out]; rintro e w1 ⟨rfl, rfl⟩)))
    go_ret
    exact ⟨ret_bool HF.out.symm, (by repeat (first | with_reducible exact Gro.refl _ | with_reducible exact Gro.refl_drew _ _ _ | with_reducible exact Gro.refl_drewN _ _ _ _ | assumption | with_reducible apply Gro.more | with_reducible apply Gro.alloc | with_reducible apply Gro.drew | with_reducible apply Gro.drewN))⟩
  | true =>
  have HF := Lib.hid (show procOk x = x.Threads.all machineOk from by rw [HQ.out]; simp)
  go_enter Try.func13, Try.ntmps13
  go_wp2_with (first
      | (go_at_call 47; (with_reducible refine (spaceOk_i (s := x.Space) (Ty.up _ h0 (by repeat (first | with_reducible exact Gro.refl _ | with_reducible exact Gro.refl_drew _ _ _ | with_reducible exact Gro.refl_drewN _ _ _ _ | assumption | with_reducible apply Gro.more | with_reducible apply Gro.alloc | with_reducible apply Gro.drew | with_reducible apply Gro.drewN))) (Ty.up _ h1 (by repeat (first | with_reducible exact Gro.refl _ | with_reducible exact Gro.refl_drew _ _ _ | with_reducible exact Gro.refl_drewN _ _ _ _ | assumption | with_reducible apply Gro.more | with_reducible apply Gro.alloc | with_reducible apply Gro.drew | with_reducible apply Gro.drewN))) (Ty.up _ h2 (by repeat (first | with_reducible exact Gro.refl _ | with_reducible exact Gro.refl_drew _ _ _ | with_reducible exact Gro.refl_drewN _ _ _ _ | assumption | with_reducible apply Gro.more | with_reducible apply Gro.alloc | with_reducible apply Gro.drew | with_reducible apply Gro.drewN))) hsp).mono ?_); rw [H0.out]; rintro e w1 ⟨rfl, os1, d1, rfl⟩)
      | (go_at_call 48; (with_reducible refine (in_i _ _ _ _).mono ?_); first | (rw [H1.out]; rintro e w1 ⟨rfl, rfl⟩) | (rw [H2.out]; rintro e w1 ⟨rfl, rfl⟩) | (rw [H3.out]; rintro e w1 ⟨rfl, rfl⟩) | (rw [H4.out]; rintro e w1 ⟨rfl, rfl⟩)))
  have hG0 : Gro w (gro (w.alloc (.cells #[.slice A0 x.Space.Images.length c0, .slice A1 x.Space.Bases.length c1, .slice A2 x.Space.Entries.length c2, .slice A3 x.Threads.length c3, .int .i64 x.Turn, .int .i64 x.Left, .int .i64 x.Slice] 36)) os1 d1) := (by repeat (first | with_reducible exact Gro.refl _ | with_reducible exact Gro.refl_drew _ _ _ | with_reducible exact Gro.refl_drewN _ _ _ _ | assumption | with_reducible apply Gro.more | with_reducible apply Gro.alloc | with_reducible apply Gro.drew | with_reducible apply Gro.drewN))
  have eb : (gro (w.alloc (.cells #[.slice A0 x.Space.Images.length c0, .slice A1 x.Space.Bases.length c1, .slice A2 x.Space.Entries.length c2, .slice A3 x.Threads.length c3, .int .i64 x.Turn, .int .i64 x.Left, .int .i64 x.Slice] 36)) os1 d1).heap[w.heap.size]? = some (.cells #[.slice A0 x.Space.Images.length c0, .slice A1 x.Space.Bases.length c1, .slice A2 x.Space.Entries.length c2, .slice A3 x.Threads.length c3, .int .i64 x.Turn, .int .i64 x.Left, .int .i64 x.Slice] 36 (0, 0)) := grow_blk (heap_alloc_new w _) (by (repeat (first | with_reducible exact Gro.refl _ | with_reducible exact Gro.refl_drew _ _ _ | with_reducible exact Gro.refl_drewN _ _ _ _ | assumption | with_reducible apply Gro.more | with_reducible apply Gro.alloc | with_reducible apply Gro.drew | with_reducible apply Gro.drewN)); done)
  have k3 := Ty.up _ h3 hG0
  obtain ⟨g0, hg0⟩ : ∃ g0, w.heap.size = g0 := ⟨_, rfl⟩
  rw [hg0] at eb ⊢
  generalize (gro (w.alloc (.cells #[.slice A0 x.Space.Images.length c0, .slice A1 x.Space.Bases.length c1, .slice A2 x.Space.Entries.length c2, .slice A3 x.Threads.length c3, .int .i64 x.Turn, .int .i64 x.Left, .int .i64 x.Slice] 36)) os1 d1) = Y at hG0 eb k3 ⊢
  have hc := fun k => cell_of_row Y g0 k _ _ (0, 0) eb
  have y1 : Y.cell? ⟨g0, 3, none⟩ = some (.slice A3 x.Threads.length c3) := hc 3
  have yl : g0 < Y.heap.size := (Array.getElem?_eq_some_iff.1 eb).1
  clear h0 h1 h2 h3 hg0 hc eb
  go_loopw [43] (fun z wr => ∃ k : Nat, z = .int .i64 k ∧ k ≤ x.Threads.length ∧ Hid ((x.Threads.drop k).all machineOk = x.Threads.all machineOk) ∧ Hid (Gro Y wr)) (fun z _ => x.Threads.length - (intOf z).toNat)
  case atStart => exact ⟨0, rfl, Nat.zero_le _, Lib.hid rfl, Lib.hid (Gro.refl _)⟩
  case round =>
    obtain ⟨k, rfl, hk, hE, hG⟩ := hrel
    obtain ⟨os, d, rfl⟩ := hG.out
    clear hG
    have y1' := gro_keeps y1 os d
    by_cases hlt : k < x.Threads.length
    · obtain ⟨g, off, y, Aa, ca, Ab, cb, rfl, hgb, hyk, m0, m1, m2, m3, m4, m5, m6, _⟩ := atMachine k3 hlt
      have ha := all_at hyk machineOk
      rw [hE.out] at ha
      have n0 := gro_keeps m0 os d
      have n1 := gro_keeps m1 os d
      have n2 := gro_keeps m2 os d
      have n3 := gro_keeps m3 os d
      have n4 := gro_keeps m4 os d
      have n5 := gro_keeps m5 os d
      have n6 := gro_keeps m6 os d
      have hki : (k : Int) < (x.Threads.length : Int) := by omega
      have hyl : y.Stack.length ≤ 1099511627776 := by have h1 := szL_elem szMachine hyk; unfold szMachine at h1 hth; omega
      obtain ⟨b, hb⟩ : ∃ b, machineOk y = b := ⟨_, rfl⟩
      rw [hb] at ha
      have HB := Lib.hid hb
      clear hb hyk hE m0 m1 m2 m3 m4 m5 m6
      cases b with
      | false =>
        have HR := Lib.hid (show procOk x = false from by rw [HF.out, ha]; rfl)
        clear ha
        go_wp2_with (go_at_call 49; (with_reducible refine (machineOk_i (m := y) hyl).mono ?_); rw [HB.out]; rintro e w2 ⟨rfl, os2, d2, rfl⟩)
        go_ret
        exact ⟨ret_bool HR.out.symm, hG0.trans (by (repeat (first | with_reducible exact Gro.refl _ | with_reducible exact Gro.refl_drew _ _ _ | with_reducible exact Gro.refl_drewN _ _ _ _ | assumption | with_reducible apply Gro.more | with_reducible apply Gro.alloc | with_reducible apply Gro.drew | with_reducible apply Gro.drewN)); done)⟩
      | true =>
        have HR := Lib.hid (show (x.Threads.drop (k + 1)).all machineOk = x.Threads.all machineOk from by rw [ha]; rfl)
        clear ha
        go_wp2_with (go_at_call 49; (with_reducible refine (machineOk_i (m := y) hyl).mono ?_); rw [HB.out]; rintro e w2 ⟨rfl, os2, d2, rfl⟩)
        go_roundw
        case measure => (simp [intOf]; try omega)
        case rel => exact ⟨k + 1, by go_num, by omega, HR, Lib.hid (by repeat (first | with_reducible exact Gro.refl _ | with_reducible exact Gro.refl_drew _ _ _ | with_reducible exact Gro.refl_drewN _ _ _ _ | assumption | with_reducible apply Gro.more | with_reducible apply Gro.alloc | with_reducible apply Gro.drew | with_reducible apply Gro.drewN))⟩
    · obtain rfl : k = x.Threads.length := by omega
      have HR := Lib.hid (show procOk x = true from by rw [HF.out, ← hE.out, List.drop_length]; rfl)
      clear hE
      go_wp2_with (fail)
      go_ret
      exact ⟨ret_bool HR.out.symm, hG0.trans (by (repeat (first | with_reducible exact Gro.refl _ | with_reducible exact Gro.refl_drew _ _ _ | with_reducible exact Gro.refl_drewN _ _ _ _ | assumption | with_reducible apply Gro.more | with_reducible apply Gro.alloc | with_reducible apply Gro.drew | with_reducible apply Gro.drewN)); done)⟩
set_option maxRecDepth 100000 in
set_option maxHeartbeats 4000000 in
theorem procOk_s {x : DProcess} {w : World} {A0 A1 A2 A3 : Option Addr} {c0 c1 c2 c3 : Nat} (h0 : (tImage.sl 96).R w w.heap.size [.slice A0 x.Space.Images.length c0] x.Space.Images) (h1 : (intT.sl 3).R w w.heap.size [.slice A1 x.Space.Bases.length c1] x.Space.Bases)
    (h2 : (intT.sl 3).R w w.heap.size [.slice A2 x.Space.Entries.length c2] x.Space.Entries) (h3 : (tMachine.sl 80).R w w.heap.size [.slice A3 x.Threads.length c3] x.Threads) (hs : szProcess x ≤ 1099511627776) :
    Calls Try.prog 11 #[.agg #[.slice A0 x.Space.Images.length c0, .slice A1 x.Space.Bases.length c1, .slice A2 x.Space.Entries.length c2, .slice A3 x.Threads.length c3, .int .i64 x.Turn, .int .i64 x.Left, .int .i64 x.Slice]] w fun r w' => r = .returned (.bool (procOk x)) ∧ Gro w w' := by
  have hsp : szSpace x.Space ≤ 1099511627776 := by unfold szProcess at hs; omega
  have hth : szL szMachine x.Threads ≤ 1099511627776 := by unfold szProcess at hs; omega
  obtain ⟨_, _, hx', htl, htm⟩ := sl_at h3
  injection hx' with e1 e2 e3
  subst e1 e3
  clear e2 hs
  obtain ⟨b0, q0⟩ : ∃ b, spaceOk x.Space = b := ⟨_, rfl⟩
  obtain ⟨b1, q1⟩ : ∃ b, btw x.Threads.length 1 3 = b := ⟨_, rfl⟩
  obtain ⟨b2, q2⟩ : ∃ b, btw x.Turn 0 ((x.Threads.length : Int) - 1) = b := ⟨_, rfl⟩
  obtain ⟨b3, q3⟩ : ∃ b, btw x.Slice 1 1000 = b := ⟨_, rfl⟩
  obtain ⟨b4, q4⟩ : ∃ b, btw x.Left 1 x.Slice = b := ⟨_, rfl⟩
  have HQ := Lib.hid (show procOk x = (b0 && b1 && b2 && b3 && b4 && x.Threads.all machineOk) from by unfold procOk; rw [q0, q1, q2, q3, q4])
  have H0 := Lib.hid q0
  have H1 := Lib.hid q1
  have H2 := Lib.hid q2
  have H3 := Lib.hid q3
  have H4 := Lib.hid q4
  have w1 : IntKind.i64.wrap ((x.Threads.length : Int) - 1) = (x.Threads.length : Int) - 1 := IntWalk.i64_in _ ⟨by omega, by omega⟩
  clear q0 q1 q2 q3 q4
  cases b0 with
  | false =>
    have HF := Lib.hid (show procOk x = false from by rw [HQ.out]; simp)
    go_enter Try.func11, Try.ntmps11
    go_wp2_with (go_at_call 43; (with_reducible refine (spaceOk_s (s := x.Space) (Ty.up _ h0 (by repeat (first | with_reducible exact Gro.refl _ | with_reducible exact Gro.refl_drew _ _ _ | with_reducible exact Gro.refl_drewN _ _ _ _ | assumption | with_reducible apply Gro.more | with_reducible apply Gro.alloc | with_reducible apply Gro.drew | with_reducible apply Gro.drewN))) (Ty.up _ h1 (by repeat (first | with_reducible exact Gro.refl _ | with_reducible exact Gro.refl_drew _ _ _ | with_reducible exact Gro.refl_drewN _ _ _ _ | assumption | with_reducible apply Gro.more | with_reducible apply Gro.alloc | with_reducible apply Gro.drew | with_reducible apply Gro.drewN))) (Ty.up _ h2 (by repeat (first | with_reducible exact Gro.refl _ | with_reducible exact Gro.refl_drew _ _ _ | with_reducible exact Gro.refl_drewN _ _ _ _ | assumption | with_reducible apply Gro.more | with_reducible apply Gro.alloc | with_reducible apply Gro.drew | with_reducible apply Gro.drewN))) hsp).mono ?_); rw [H0.out]; rintro e w1 ⟨rfl, os1, d1, rfl⟩)
    go_ret
    exact ⟨ret_bool HF.out.symm, (by repeat (first | with_reducible exact Gro.refl _ | with_reducible exact Gro.refl_drew _ _ _ | with_reducible exact Gro.refl_drewN _ _ _ _ | assumption | with_reducible apply Gro.more | with_reducible apply Gro.alloc | with_reducible apply Gro.drew | with_reducible apply Gro.drewN))⟩
  | true =>
  cases b1 with
  | false =>
    have HF := Lib.hid (show procOk x = false from by rw [HQ.out]; simp)
    go_enter Try.func11, Try.ntmps11
    go_wp2_with (first
      | (go_at_call 43; (with_reducible refine (spaceOk_s (s := x.Space) (Ty.up _ h0 (by repeat (first | with_reducible exact Gro.refl _ | with_reducible exact Gro.refl_drew _ _ _ | with_reducible exact Gro.refl_drewN _ _ _ _ | assumption | with_reducible apply Gro.more | with_reducible apply Gro.alloc | with_reducible apply Gro.drew | with_reducible apply Gro.drewN))) (Ty.up _ h1 (by repeat (first | with_reducible exact Gro.refl _ | with_reducible exact Gro.refl_drew _ _ _ | with_reducible exact Gro.refl_drewN _ _ _ _ | assumption | with_reducible apply Gro.more | with_reducible apply Gro.alloc | with_reducible apply Gro.drew | with_reducible apply Gro.drewN))) (Ty.up _ h2 (by repeat (first | with_reducible exact Gro.refl _ | with_reducible exact Gro.refl_drew _ _ _ | with_reducible exact Gro.refl_drewN _ _ _ _ | assumption | with_reducible apply Gro.more | with_reducible apply Gro.alloc | with_reducible apply Gro.drew | with_reducible apply Gro.drewN))) hsp).mono ?_); rw [H0.out]; rintro e w1 ⟨rfl, os1, d1, rfl⟩)
      | (go_at_call 44; (with_reducible refine (in_s _ _ _ _).mono ?_); first | (rw [H1.out]; rintro e w1 ⟨rfl, rfl⟩)))
    go_ret
    exact ⟨ret_bool HF.out.symm, (by repeat (first | with_reducible exact Gro.refl _ | with_reducible exact Gro.refl_drew _ _ _ | with_reducible exact Gro.refl_drewN _ _ _ _ | assumption | with_reducible apply Gro.more | with_reducible apply Gro.alloc | with_reducible apply Gro.drew | with_reducible apply Gro.drewN))⟩
  | true =>
  cases b2 with
  | false =>
    have HF := Lib.hid (show procOk x = false from by rw [HQ.out]; simp)
    go_enter Try.func11, Try.ntmps11
    go_wp2_with (first
      | (go_at_call 43; (with_reducible refine (spaceOk_s (s := x.Space) (Ty.up _ h0 (by repeat (first | with_reducible exact Gro.refl _ | with_reducible exact Gro.refl_drew _ _ _ | with_reducible exact Gro.refl_drewN _ _ _ _ | assumption | with_reducible apply Gro.more | with_reducible apply Gro.alloc | with_reducible apply Gro.drew | with_reducible apply Gro.drewN))) (Ty.up _ h1 (by repeat (first | with_reducible exact Gro.refl _ | with_reducible exact Gro.refl_drew _ _ _ | with_reducible exact Gro.refl_drewN _ _ _ _ | assumption | with_reducible apply Gro.more | with_reducible apply Gro.alloc | with_reducible apply Gro.drew | with_reducible apply Gro.drewN))) (Ty.up _ h2 (by repeat (first | with_reducible exact Gro.refl _ | with_reducible exact Gro.refl_drew _ _ _ | with_reducible exact Gro.refl_drewN _ _ _ _ | assumption | with_reducible apply Gro.more | with_reducible apply Gro.alloc | with_reducible apply Gro.drew | with_reducible apply Gro.drewN))) hsp).mono ?_); rw [H0.out]; rintro e w1 ⟨rfl, os1, d1, rfl⟩)
      | (go_at_call 44; (with_reducible refine (in_s _ _ _ _).mono ?_); first | (rw [H1.out]; rintro e w1 ⟨rfl, rfl⟩) | (rw [H2.out]; rintro e w1 ⟨rfl, rfl⟩)))
    go_ret
    exact ⟨ret_bool HF.out.symm, (by repeat (first | with_reducible exact Gro.refl _ | with_reducible exact Gro.refl_drew _ _ _ | with_reducible exact Gro.refl_drewN _ _ _ _ | assumption | with_reducible apply Gro.more | with_reducible apply Gro.alloc | with_reducible apply Gro.drew | with_reducible apply Gro.drewN))⟩
  | true =>
  cases b3 with
  | false =>
    have HF := Lib.hid (show procOk x = false from by rw [HQ.out]; simp)
    go_enter Try.func11, Try.ntmps11
    go_wp2_with (first
      | (go_at_call 43; (with_reducible refine (spaceOk_s (s := x.Space) (Ty.up _ h0 (by repeat (first | with_reducible exact Gro.refl _ | with_reducible exact Gro.refl_drew _ _ _ | with_reducible exact Gro.refl_drewN _ _ _ _ | assumption | with_reducible apply Gro.more | with_reducible apply Gro.alloc | with_reducible apply Gro.drew | with_reducible apply Gro.drewN))) (Ty.up _ h1 (by repeat (first | with_reducible exact Gro.refl _ | with_reducible exact Gro.refl_drew _ _ _ | with_reducible exact Gro.refl_drewN _ _ _ _ | assumption | with_reducible apply Gro.more | with_reducible apply Gro.alloc | with_reducible apply Gro.drew | with_reducible apply Gro.drewN))) (Ty.up _ h2 (by repeat (first | with_reducible exact Gro.refl _ | with_reducible exact Gro.refl_drew _ _ _ | with_reducible exact Gro.refl_drewN _ _ _ _ | assumption | with_reducible apply Gro.more | with_reducible apply Gro.alloc | with_reducible apply Gro.drew | with_reducible apply Gro.drewN))) hsp).mono ?_); rw [H0.out]; rintro e w1 ⟨rfl, os1, d1, rfl⟩)
      | (go_at_call 44; (with_reducible refine (in_s _ _ _ _).mono ?_); first | (rw [H1.out]; rintro e w1 ⟨rfl, rfl⟩) | (rw [H2.out]; rintro e w1 ⟨rfl, rfl⟩) | (rw [H3.out]; rintro e w1 ⟨rfl, rfl⟩)))
    go_ret
    exact ⟨ret_bool HF.out.symm, (by repeat (first | with_reducible exact Gro.refl _ | with_reducible exact Gro.refl_drew _ _ _ | with_reducible exact Gro.refl_drewN _ _ _ _ | assumption | with_reducible apply Gro.more | with_reducible apply Gro.alloc | with_reducible apply Gro.drew | with_reducible apply Gro.drewN))⟩
  | true =>
  cases b4 with
  | false =>
    have HF := Lib.hid (show procOk x = false from by rw [HQ.out]; simp)
    go_enter Try.func11, Try.ntmps11
    go_wp2_with (first
      | (go_at_call 43; (with_reducible refine (spaceOk_s (s := x.Space) (Ty.up _ h0 (by repeat (first | with_reducible exact Gro.refl _ | with_reducible exact Gro.refl_drew _ _ _ | with_reducible exact Gro.refl_drewN _ _ _ _ | assumption | with_reducible apply Gro.more | with_reducible apply Gro.alloc | with_reducible apply Gro.drew | with_reducible apply Gro.drewN))) (Ty.up _ h1 (by repeat (first | with_reducible exact Gro.refl _ | with_reducible exact Gro.refl_drew _ _ _ | with_reducible exact Gro.refl_drewN _ _ _ _ | assumption | with_reducible apply Gro.more | with_reducible apply Gro.alloc | with_reducible apply Gro.drew | with_reducible apply Gro.drewN))) (Ty.up _ h2 (by repeat (first | with_reducible exact Gro.refl _ | with_reducible exact Gro.refl_drew _ _ _ | with_reducible exact Gro.refl_drewN _ _ _ _ | assumption | with_reducible apply Gro.more | with_reducible apply Gro.alloc | with_reducible apply Gro.drew | with_reducible apply Gro.drewN))) hsp).mono ?_); rw [H0.out]; rintro e w1 ⟨rfl, os1, d1, rfl⟩)
      | (go_at_call 44; (with_reducible refine (in_s _ _ _ _).mono ?_); first | (rw [H1.out]; rintro e w1 ⟨rfl, rfl⟩) | (rw [H2.out]; rintro e w1 ⟨rfl, rfl⟩) | (rw [H3.out]; rintro e w1 ⟨rfl, rfl⟩) | (rw [H4.out]; rintro e w1 ⟨rfl, rfl⟩)))
    go_ret
    exact ⟨ret_bool HF.out.symm, (by repeat (first | with_reducible exact Gro.refl _ | with_reducible exact Gro.refl_drew _ _ _ | with_reducible exact Gro.refl_drewN _ _ _ _ | assumption | with_reducible apply Gro.more | with_reducible apply Gro.alloc | with_reducible apply Gro.drew | with_reducible apply Gro.drewN))⟩
  | true =>
  have HF := Lib.hid (show procOk x = x.Threads.all machineOk from by rw [HQ.out]; simp)
  go_enter Try.func11, Try.ntmps11
  go_wp2_with (first
      | (go_at_call 43; (with_reducible refine (spaceOk_s (s := x.Space) (Ty.up _ h0 (by repeat (first | with_reducible exact Gro.refl _ | with_reducible exact Gro.refl_drew _ _ _ | with_reducible exact Gro.refl_drewN _ _ _ _ | assumption | with_reducible apply Gro.more | with_reducible apply Gro.alloc | with_reducible apply Gro.drew | with_reducible apply Gro.drewN))) (Ty.up _ h1 (by repeat (first | with_reducible exact Gro.refl _ | with_reducible exact Gro.refl_drew _ _ _ | with_reducible exact Gro.refl_drewN _ _ _ _ | assumption | with_reducible apply Gro.more | with_reducible apply Gro.alloc | with_reducible apply Gro.drew | with_reducible apply Gro.drewN))) (Ty.up _ h2 (by repeat (first | with_reducible exact Gro.refl _ | with_reducible exact Gro.refl_drew _ _ _ | with_reducible exact Gro.refl_drewN _ _ _ _ | assumption | with_reducible apply Gro.more | with_reducible apply Gro.alloc | with_reducible apply Gro.drew | with_reducible apply Gro.drewN))) hsp).mono ?_); rw [H0.out]; rintro e w1 ⟨rfl, os1, d1, rfl⟩)
      | (go_at_call 44; (with_reducible refine (in_s _ _ _ _).mono ?_); first | (rw [H1.out]; rintro e w1 ⟨rfl, rfl⟩) | (rw [H2.out]; rintro e w1 ⟨rfl, rfl⟩) | (rw [H3.out]; rintro e w1 ⟨rfl, rfl⟩) | (rw [H4.out]; rintro e w1 ⟨rfl, rfl⟩)))
  have hG0 : Gro w (gro (w.alloc (.cells #[.slice A0 x.Space.Images.length c0, .slice A1 x.Space.Bases.length c1, .slice A2 x.Space.Entries.length c2, .slice A3 x.Threads.length c3, .int .i64 x.Turn, .int .i64 x.Left, .int .i64 x.Slice] 36)) os1 d1) := (by repeat (first | with_reducible exact Gro.refl _ | with_reducible exact Gro.refl_drew _ _ _ | with_reducible exact Gro.refl_drewN _ _ _ _ | assumption | with_reducible apply Gro.more | with_reducible apply Gro.alloc | with_reducible apply Gro.drew | with_reducible apply Gro.drewN))
  have eb : (gro (w.alloc (.cells #[.slice A0 x.Space.Images.length c0, .slice A1 x.Space.Bases.length c1, .slice A2 x.Space.Entries.length c2, .slice A3 x.Threads.length c3, .int .i64 x.Turn, .int .i64 x.Left, .int .i64 x.Slice] 36)) os1 d1).heap[w.heap.size]? = some (.cells #[.slice A0 x.Space.Images.length c0, .slice A1 x.Space.Bases.length c1, .slice A2 x.Space.Entries.length c2, .slice A3 x.Threads.length c3, .int .i64 x.Turn, .int .i64 x.Left, .int .i64 x.Slice] 36 (0, 0)) := grow_blk (heap_alloc_new w _) (by (repeat (first | with_reducible exact Gro.refl _ | with_reducible exact Gro.refl_drew _ _ _ | with_reducible exact Gro.refl_drewN _ _ _ _ | assumption | with_reducible apply Gro.more | with_reducible apply Gro.alloc | with_reducible apply Gro.drew | with_reducible apply Gro.drewN)); done)
  have k3 := Ty.up _ h3 hG0
  obtain ⟨g0, hg0⟩ : ∃ g0, w.heap.size = g0 := ⟨_, rfl⟩
  rw [hg0] at eb ⊢
  generalize (gro (w.alloc (.cells #[.slice A0 x.Space.Images.length c0, .slice A1 x.Space.Bases.length c1, .slice A2 x.Space.Entries.length c2, .slice A3 x.Threads.length c3, .int .i64 x.Turn, .int .i64 x.Left, .int .i64 x.Slice] 36)) os1 d1) = Y at hG0 eb k3 ⊢
  have hc := fun k => cell_of_row Y g0 k _ _ (0, 0) eb
  have y1 : Y.cell? ⟨g0, 3, none⟩ = some (.slice A3 x.Threads.length c3) := hc 3
  have yl : g0 < Y.heap.size := (Array.getElem?_eq_some_iff.1 eb).1
  clear h0 h1 h2 h3 hg0 hc eb
  go_loopw [3] (fun z wr => ∃ k : Nat, z = .int .i64 k ∧ k ≤ x.Threads.length ∧ Hid ((x.Threads.drop k).all machineOk = x.Threads.all machineOk) ∧ Hid (Gro Y wr)) (fun z _ => x.Threads.length - (intOf z).toNat)
  case atStart => exact ⟨0, rfl, Nat.zero_le _, Lib.hid rfl, Lib.hid (Gro.refl _)⟩
  case round =>
    obtain ⟨k, rfl, hk, hE, hG⟩ := hrel
    obtain ⟨os, d, rfl⟩ := hG.out
    clear hG
    have y1' := gro_keeps y1 os d
    by_cases hlt : k < x.Threads.length
    · obtain ⟨g, off, y, Aa, ca, Ab, cb, rfl, hgb, hyk, m0, m1, m2, m3, m4, m5, m6, _⟩ := atMachine k3 hlt
      have ha := all_at hyk machineOk
      rw [hE.out] at ha
      have n0 := gro_keeps m0 os d
      have n1 := gro_keeps m1 os d
      have n2 := gro_keeps m2 os d
      have n3 := gro_keeps m3 os d
      have n4 := gro_keeps m4 os d
      have n5 := gro_keeps m5 os d
      have n6 := gro_keeps m6 os d
      have hki : (k : Int) < (x.Threads.length : Int) := by omega
      have hyl : y.Stack.length ≤ 1099511627776 := by have h1 := szL_elem szMachine hyk; unfold szMachine at h1 hth; omega
      obtain ⟨b, hb⟩ : ∃ b, machineOk y = b := ⟨_, rfl⟩
      rw [hb] at ha
      have HB := Lib.hid hb
      clear hb hyk hE m0 m1 m2 m3 m4 m5 m6
      cases b with
      | false =>
        have HR := Lib.hid (show procOk x = false from by rw [HF.out, ha]; rfl)
        clear ha
        go_wp2_with (go_at_call 45; (with_reducible refine (machineOk_s (m := y) hyl).mono ?_); rw [HB.out]; rintro e w2 ⟨rfl, os2, d2, rfl⟩)
        go_ret
        exact ⟨ret_bool HR.out.symm, hG0.trans (by (repeat (first | with_reducible exact Gro.refl _ | with_reducible exact Gro.refl_drew _ _ _ | with_reducible exact Gro.refl_drewN _ _ _ _ | assumption | with_reducible apply Gro.more | with_reducible apply Gro.alloc | with_reducible apply Gro.drew | with_reducible apply Gro.drewN)); done)⟩
      | true =>
        have HR := Lib.hid (show (x.Threads.drop (k + 1)).all machineOk = x.Threads.all machineOk from by rw [ha]; rfl)
        clear ha
        go_wp2_with (go_at_call 45; (with_reducible refine (machineOk_s (m := y) hyl).mono ?_); rw [HB.out]; rintro e w2 ⟨rfl, os2, d2, rfl⟩)
        go_roundw
        case measure => (simp [intOf]; try omega)
        case rel => exact ⟨k + 1, by go_num, by omega, HR, Lib.hid (by repeat (first | with_reducible exact Gro.refl _ | with_reducible exact Gro.refl_drew _ _ _ | with_reducible exact Gro.refl_drewN _ _ _ _ | assumption | with_reducible apply Gro.more | with_reducible apply Gro.alloc | with_reducible apply Gro.drew | with_reducible apply Gro.drewN))⟩
    · obtain rfl : k = x.Threads.length := by omega
      have HR := Lib.hid (show procOk x = true from by rw [HF.out, ← hE.out, List.drop_length]; rfl)
      clear hE
      go_wp2_with (fail)
      go_ret
      exact ⟨ret_bool HR.out.symm, hG0.trans (by (repeat (first | with_reducible exact Gro.refl _ | with_reducible exact Gro.refl_drew _ _ _ | with_reducible exact Gro.refl_drewN _ _ _ _ | assumption | with_reducible apply Gro.more | with_reducible apply Gro.alloc | with_reducible apply Gro.drew | with_reducible apply Gro.drewN)); done)⟩
end Go.Proofs.Ytbhobjepjaeffaa
namespace Go.Proofs.Ytbhobjepjaeffaa
open Go.RowKit
def w32 (n : Int) : Int := (n + 2147483648) % 4294967296 - 2147483648
/-- Apply by an instruction's code: 5 add, 6 sub, 7 mul, 8 less, 9 same -/
def applyC (code a b : Int) : Int :=
  if code = 5 then w32 (w32 a + w32 b)
  else if code = 6 then w32 (w32 a - w32 b)
  else if code = 7 then w32 (w32 a * w32 b)
  else if code = 8 then (if w32 a < w32 b then 1 else 0)
  else if code = 9 then (if w32 a = w32 b then 1 else 0)
  else 0
def cAt (m : DMachine) (a : Int) : Option Int := if btw a 0 1199 = true then m.Stack[a.toNat]? else none
def cPush (m : DMachine) (v : Int) : Option DMachine := if btw m.Sp 1 1200 = true then some { m with Sp := m.Sp - 1, Stack := m.Stack.set (m.Sp - 1).toNat v } else none
def cPop (m : DMachine) : Option (DMachine × Int) := (cAt m m.Sp).map fun v => ({ m with Sp := m.Sp + 1 }, v)
def cPut (m : DMachine) (a v : Int) : Option DMachine := if btw a 0 1199 = true then some { m with Stack := m.Stack.set a.toNat v } else none
def cDrop : Nat → DMachine → Option DMachine
  | 0, m => some m
  | n + 1, m => (cPop m).bind fun p => cDrop n p.1
def cZeros : Nat → DMachine → Option DMachine
  | 0, m => some m
  | n + 1, m => (cPush m 0).bind fun m' => cZeros n m'
/-- an instruction, Pc behind it already -/
def performM (es : List Int) (m : DMachine) (code arg : Int) : Option DMachine :=
  if code = 0 then cPush m arg
  else if code = 1 then (cAt m (m.Fp + arg)).bind fun v => cPush m v
  else if code = 3 then (cAt m (m.Sp + arg)).bind fun v => cPush m v
  else if code = 2 then (cPop m).bind fun p => cPut p.1 (m.Fp + arg) p.2
  else if code = 4 then (cPop m).bind fun p => cPut p.1 (m.Sp + arg) p.2
  else if code = 10 then some { m with Pc := m.Pc + arg }
  else if code = 11 then (cPop m).map fun p => if p.2 = 0 then { p.1 with Pc := p.1.Pc + arg } else p.1
  else if code = 12 then (cPush m m.Pc).bind fun m' => (es[arg.toNat]?).map fun e => { m' with Pc := e }
  else if code = 13 then (cPush m m.Fp).bind fun m' => cZeros arg.toNat { m' with Fp := m'.Sp }
  else if code = 15 then cZeros arg.toNat m
  else if code = 14 then (cPop m).bind fun p => (cPop { p.1 with Sp := p.1.Fp }).bind fun q => (cPop { q.1 with Fp := q.2 }).bind fun r => (cDrop arg.toNat { r.1 with Pc := r.2 }).bind fun m' => cPush m' p.2
  else if code = 16 then (cPop m).bind fun p => (cDrop (arg.toNat / 16) p.1).bind fun m1 => (cPop m1).bind fun r => (cDrop (arg.toNat % 16) { r.1 with Pc := r.2 }).bind fun m' => cPush m' p.2
  else if code = 17 then (cPop m).map fun p => { p.1 with Out := p.1.Out ++ [p.2] }
  else (cPop m).bind fun p => (cPop p.1).bind fun q => cPush q.1 (applyC code q.2 p.2)
/-- the end of a step: Pc 0 is the end of the thread -/
def endM (m : DMachine) : Option DMachine := if m.Pc = 0 then (cAt m m.Sp).map fun v => { m with State := 1, Value := v } else some m
def stepM (s : DSpace) (m : DMachine) : DMachine :=
  let l := loc s m.Pc
  match (if l.1 < 0 then none else s.Images[l.1.toNat]?) with
  | none => { m with State := 2 }
  | some i =>
    let r := decOp i.Code l.2
    if r.ok = true then (((performM s.Entries { m with Pc := m.Pc + r.n } r.code r.arg).bind endM).getD { m with State := 2 }) else { m with State := 2 }
end Go.Proofs.Ytbhobjepjaeffaa
namespace Go.Proofs.Ytbhobjepjaeffaa
open Go.RowKit
theorem set_at {W : World} {g i : Nat} {cur cur' : Array Value} {e : TypeId} {v : Value} (h : W.heap[g]? = some (.cells cur e (0, 0))) (hc : cur.setIfInBounds i v = cur') : (W.setCell ⟨g, i, none⟩ v).heap[g]? = some (.cells cur' e (0, 0)) := by
  rw [heap_setCell_at h i v, hc]
theorem set3 {W : World} {g : Nat} {o0 o1 o2 : Value} {e : TypeId} (h : W.heap[g]? = some (.cells #[o0, o1, o2] e (0, 0))) (v0 v1 v2 : Value) :
    (((W.setCell ⟨g, 0, none⟩ v0).setCell ⟨g, 1, none⟩ v1).setCell ⟨g, 2, none⟩ v2).heap[g]? = some (.cells #[v0, v1, v2] e (0, 0)) ∧ OnlyS [g] W (((W.setCell ⟨g, 0, none⟩ v0).setCell ⟨g, 1, none⟩ v1).setCell ⟨g, 2, none⟩ v2) :=
  ⟨(set_at (i := 2) (v := v2) (cur' := #[v0, v1, v2]) (set_at (i := 1) (v := v1) (cur' := #[v0, v1, o2]) (set_at (i := 0) (v := v0) (cur' := #[v0, o1, o2]) h rfl) rfl) rfl), ((((OnlyS.refl _ _).setCell (p := ⟨g, 0, none⟩) (by simp) v0).setCell (p := ⟨g, 1, none⟩) (by simp) v1).setCell (p := ⟨g, 2, none⟩) (by simp) v2)⟩
theorem row3 {W : World} {g : Nat} {o0 o1 o2 : Value} {e : TypeId} (h : W.heap[g]? = some (.cells #[o0, o1, o2] e (0, 0))) :
    W.cell? ⟨g, 0, none⟩ = some o0 ∧ W.cell? ⟨g, 1, none⟩ = some o1 ∧ W.cell? ⟨g, 2, none⟩ = some o2 ∧ (∀ j, W.frozen? ⟨g, j, none⟩ = false) ∧ g < W.heap.size := by
  refine ⟨?_, ?_, ?_, fun j => by simp [World.frozen?, h], (Array.getElem?_eq_some_iff.1 h).1⟩
  all_goals
    rw [cell_of_row W g _ _ _ (0, 0) h]
    rfl
theorem set7 {W : World} {g : Nat} {o0 o1 o2 o3 o4 o5 o6 : Value} {e : TypeId} (h : W.heap[g]? = some (.cells #[o0, o1, o2, o3, o4, o5, o6] e (0, 0))) (v0 v1 v2 v3 v4 v5 v6 : Value) :
    (((((((W.setCell ⟨g, 0, none⟩ v0).setCell ⟨g, 1, none⟩ v1).setCell ⟨g, 2, none⟩ v2).setCell ⟨g, 3, none⟩ v3).setCell ⟨g, 4, none⟩ v4).setCell ⟨g, 5, none⟩ v5).setCell ⟨g, 6, none⟩ v6).heap[g]? = some (.cells #[v0, v1, v2, v3, v4, v5, v6] e (0, 0)) ∧ OnlyS [g] W (((((((W.setCell ⟨g, 0, none⟩ v0).setCell ⟨g, 1, none⟩ v1).setCell ⟨g, 2, none⟩ v2).setCell ⟨g, 3, none⟩ v3).setCell ⟨g, 4, none⟩ v4).setCell ⟨g, 5, none⟩ v5).setCell ⟨g, 6, none⟩ v6) :=
  ⟨(set_at (i := 6) (v := v6) (cur' := #[v0, v1, v2, v3, v4, v5, v6]) (set_at (i := 5) (v := v5) (cur' := #[v0, v1, v2, v3, v4, v5, o6]) (set_at (i := 4) (v := v4) (cur' := #[v0, v1, v2, v3, v4, o5, o6]) (set_at (i := 3) (v := v3) (cur' := #[v0, v1, v2, v3, o4, o5, o6]) (set_at (i := 2) (v := v2) (cur' := #[v0, v1, v2, o3, o4, o5, o6]) (set_at (i := 1) (v := v1) (cur' := #[v0, v1, o2, o3, o4, o5, o6]) (set_at (i := 0) (v := v0) (cur' := #[v0, o1, o2, o3, o4, o5, o6]) h rfl) rfl) rfl) rfl) rfl) rfl) rfl), ((((((((OnlyS.refl _ _).setCell (p := ⟨g, 0, none⟩) (by simp) v0).setCell (p := ⟨g, 1, none⟩) (by simp) v1).setCell (p := ⟨g, 2, none⟩) (by simp) v2).setCell (p := ⟨g, 3, none⟩) (by simp) v3).setCell (p := ⟨g, 4, none⟩) (by simp) v4).setCell (p := ⟨g, 5, none⟩) (by simp) v5).setCell (p := ⟨g, 6, none⟩) (by simp) v6)⟩
theorem row7 {W : World} {g : Nat} {o0 o1 o2 o3 o4 o5 o6 : Value} {e : TypeId} (h : W.heap[g]? = some (.cells #[o0, o1, o2, o3, o4, o5, o6] e (0, 0))) :
    W.cell? ⟨g, 0, none⟩ = some o0 ∧ W.cell? ⟨g, 1, none⟩ = some o1 ∧ W.cell? ⟨g, 2, none⟩ = some o2 ∧ W.cell? ⟨g, 3, none⟩ = some o3 ∧ W.cell? ⟨g, 4, none⟩ = some o4 ∧ W.cell? ⟨g, 5, none⟩ = some o5 ∧ W.cell? ⟨g, 6, none⟩ = some o6 ∧ (∀ j, W.frozen? ⟨g, j, none⟩ = false) ∧ g < W.heap.size := by
  refine ⟨?_, ?_, ?_, ?_, ?_, ?_, ?_, fun j => by simp [World.frozen?, h], (Array.getElem?_eq_some_iff.1 h).1⟩
  all_goals
    rw [cell_of_row W g _ _ _ (0, 0) h]
    rfl
theorem keep_thru {U W W' : World} {S : List Nat} {g i : Nat} {v : Value} (hc : U.cell? ⟨g, i, none⟩ = some v) (hg : Gro U W) (hon : OnlyS S W W') (hn : g ∉ S) : W'.cell? ⟨g, i, none⟩ = some v := by
  have hl := World.block_lt_of_cell? _ _ hc
  simp only at hl
  obtain ⟨os, d, rfl⟩ := hg
  exact (hon.cell (Nat.lt_of_lt_of_le hl (Gro.of U os d).size) hn i).trans (gro_keeps hc os d)
theorem keep_set {W : World} {g gp i j : Nat} {v u : Value} (hc : W.cell? ⟨g, i, none⟩ = some v) (hn : g ≠ gp) : (W.setCell ⟨gp, j, none⟩ u).cell? ⟨g, i, none⟩ = some v := by
  have hl := World.block_lt_of_cell? _ _ hc
  simp only at hl
  exact (((OnlyS.refl [gp] W).setCell (p := ⟨gp, j, none⟩) (by simp) u).cell hl (by simpa using hn) i).trans hc
theorem frz_thru {U W W' : World} {S : List Nat} {g : Nat} {o : Obj} (hb : U.heap[g]? = some o) (hg : Gro U W) (hon : OnlyS S W W') (hn : g ∉ S) : W'.heap[g]? = some o := by
  have hl := (Array.getElem?_eq_some_iff.1 hb).1
  exact (hon.block g (Nat.lt_of_lt_of_le hl hg.size) hn).trans (grow_blk hb hg)
end Go.Proofs.Ytbhobjepjaeffaa
namespace Go.Proofs.Ytbhobjepjaeffaa
open Go.RowKit
theorem locGo_res : ∀ (imgs : List DImage) (bases : List Int) (e : Int) (k : Nat), locGo imgs bases e k = (-1, -1) ∨ ∃ (j : Nat) (x : DImage) (b : Int), imgs[j]? = some x ∧ bases[j]? = some b ∧ locGo imgs bases e k = (((k + j : Nat) : Int), e - b) ∧ b ≤ e ∧ e < b + x.Code.size := by
  intro imgs
  induction imgs with
  | nil => intro bases e k; exact .inl (locGo_nil bases e k)
  | cons x r ih =>
    intro bases e k
    cases bases with
    | nil => exact .inl rfl
    | cons b bs =>
      have h := locGo_at (imgs := x :: r) (bases := b :: bs) (k := 0) (x := x) (b := b) rfl rfl e
      by_cases hq : b ≤ e ∧ e < b + x.Code.size
      · refine .inr ⟨0, x, b, rfl, rfl, ?_, hq.1, hq.2⟩
        unfold locGo
        rw [if_pos hq]
        rfl
      · have hs : locGo (x :: r) (b :: bs) e k = locGo r bs e (k + 1) := by
          rw [locGo, if_neg hq]
        rcases ih bs e (k + 1) with h1 | ⟨j, y, c, h1, h2, h3, h4, h5⟩
        · exact .inl (hs.trans h1)
        · exact .inr ⟨j + 1, y, c, h1, h2, by rw [hs, h3]; simp; omega, h4, h5⟩
def fetchM (s : DSpace) (a : Int) : OpR :=
  if (loc s a).1 < 0 then ⟨0, 0, 0, false⟩ else
    match s.Images[(loc s a).1.toNat]? with
    | some i => decOp i.Code (loc s a).2
    | none => ⟨0, 0, 0, false⟩
set_option maxRecDepth 100000 in
set_option maxHeartbeats 2000000 in
theorem fetch_s {s : DSpace} {a : Int} {w : World} {A0 A1 A2 : Option Addr} {c0 c1 c2 : Nat} (h0 : (tImage.sl 96).R w w.heap.size [.slice A0 s.Images.length c0] s.Images) (h1 : (intT.sl 3).R w w.heap.size [.slice A1 s.Bases.length c1] s.Bases)
    (hl : s.Images.length = s.Bases.length) (hst : ∀ x ∈ s.Images, x.Code.size ≤ 1099511627776) (hbs : ∀ b ∈ s.Bases, btw b 1 1000000 = true) (ha : I64 a) :
    Calls Try.prog 127 #[.agg #[.slice A0 s.Images.length c0, .slice A1 s.Bases.length c1, .slice A2 s.Entries.length c2], .int .i64 a] w (RetOp (fetchM s a) w) := by
  obtain ⟨_, _, hx', hxl, hcm⟩ := sl_at h0
  injection hx' with e1 e2 e3
  subst e1 e3
  clear e2
  have HLL := Lib.hid hl
  have HST := Lib.hid hst
  have HBS := Lib.hid hbs
  rcases locGo_res s.Images s.Bases a 0 with h | ⟨j, x, b, hj, hb, h, hb1, hb2⟩
  · have HL := Lib.hid h
    have HQ := Lib.hid (show fetchM s a = ⟨0, 0, 0, false⟩ from by unfold fetchM loc; rw [h]; rfl)
    clear h hl hst hbs
    go_enter Try.func127, Try.ntmps127
    go_wp2_with (go_at_call 82; (with_reducible refine (locate_s (imgs := s.Images) (bases := s.Bases) (es := s.Entries) (e := a) (Ty.up _ h0 (by repeat (first | with_reducible exact Gro.refl _ | with_reducible exact Gro.refl_drew _ _ _ | with_reducible exact Gro.refl_drewN _ _ _ _ | assumption | with_reducible apply Gro.more | with_reducible apply Gro.alloc | with_reducible apply Gro.drew | with_reducible apply Gro.drewN))) (Ty.up _ h1 (by repeat (first | with_reducible exact Gro.refl _ | with_reducible exact Gro.refl_drew _ _ _ | with_reducible exact Gro.refl_drewN _ _ _ _ | assumption | with_reducible apply Gro.more | with_reducible apply Gro.alloc | with_reducible apply Gro.drew | with_reducible apply Gro.drewN))) HLL.out HST.out HBS.out ha).mono ?_); rw [HL.out]; rintro e w1 ⟨rfl, os1, d1, rfl⟩)
    rw [HQ.out]
    exact bodyPost_ret (v := .tuple #[.agg #[.int .i64 0, .int .i64 0], .int .i64 0, .bool false]) (by simp [results, Try.results127, go_sem]) rfl ⟨rfl, (by repeat (first | with_reducible exact Gro.refl _ | with_reducible exact Gro.refl_drew _ _ _ | with_reducible exact Gro.refl_drewN _ _ _ _ | assumption | with_reducible apply Gro.more | with_reducible apply Gro.alloc | with_reducible apply Gro.drew | with_reducible apply Gro.drewN))⟩
  · rw [Nat.zero_add] at h
    have HL := Lib.hid h
    have hjl : j < s.Images.length := (List.getElem?_eq_some_iff.1 hj).1
    obtain ⟨g, off, y, Ax, cx, rfl, hgb, hyk, m0, m1, p0, hsy⟩ := atImage h0 hjl
    have hxy : y = x := by rw [hj] at hyk; injection hyk with hyk; exact hyk.symm
    subst hxy
    have hys : y.Code.size ≤ 1099511627776 := hst y (List.mem_of_getElem? hj)
    have hbb := btw_iff.1 (hbs b (List.mem_of_getElem? hb))
    have hab : I64 (a - b) := ⟨by have := ha.1; omega, by have := ha.2; omega⟩
    have HQ0 : fetchM s a = decOp y.Code (a - b) := by
      unfold fetchM loc
      rw [h]
      simp only
      rw [if_neg (by omega), Int.toNat_natCast, hj]
    have hj0 : ¬ ((j : Int) < 0) := by omega
    have hji : (j : Int) < (s.Images.length : Int) := by omega
    obtain ⟨r, hr⟩ : ∃ r, decOp y.Code (a - b) = r := ⟨_, rfl⟩
    rw [hr] at HQ0
    have HQ := Lib.hid HQ0
    have HR := Lib.hid hr
    clear h hj hb hyk hr HQ0 hl hst hbs
    go_enter Try.func127, Try.ntmps127
    go_wp2_with (first
      | (go_at_call 82; (with_reducible refine (locate_s (imgs := s.Images) (bases := s.Bases) (es := s.Entries) (e := a) (Ty.up _ h0 (by repeat (first | with_reducible exact Gro.refl _ | with_reducible exact Gro.refl_drew _ _ _ | with_reducible exact Gro.refl_drewN _ _ _ _ | assumption | with_reducible apply Gro.more | with_reducible apply Gro.alloc | with_reducible apply Gro.drew | with_reducible apply Gro.drewN))) (Ty.up _ h1 (by repeat (first | with_reducible exact Gro.refl _ | with_reducible exact Gro.refl_drew _ _ _ | with_reducible exact Gro.refl_drewN _ _ _ _ | assumption | with_reducible apply Gro.more | with_reducible apply Gro.alloc | with_reducible apply Gro.drew | with_reducible apply Gro.drewN))) HLL.out HST.out HBS.out ha).mono ?_); rw [HL.out]; rintro e w1 ⟨rfl, os1, d1, rfl⟩)
      | (go_at_call 134; (with_reducible refine (decodeOp_s y.Code (a - b) _ hys hab).mono ?_); rw [HR.out]; rintro e w2 ⟨rfl, os2, d2, rfl⟩))
    rw [HQ.out]
    exact bodyPost_ret (v := .tuple #[.agg #[.int .i64 r.code, .int .i64 r.arg], .int .i64 r.n, .bool r.ok]) (by simp [results, Try.results127, go_sem]) rfl ⟨rfl, (by repeat (first | with_reducible exact Gro.refl _ | with_reducible exact Gro.refl_drew _ _ _ | with_reducible exact Gro.refl_drewN _ _ _ _ | assumption | with_reducible apply Gro.more | with_reducible apply Gro.alloc | with_reducible apply Gro.drew | with_reducible apply Gro.drewN))⟩
end Go.Proofs.Ytbhobjepjaeffaa
namespace Go.Proofs.Ytbhobjepjaeffaa
open Go.RowKit
section
variable {P : Program} {ops : Array Oper} {Q : Exit → Act → World → Prop} {md : Region.Mode} {S : World → Prop} {m : Nat}
/-- whatever order: S holds behind every operation but m -/
def AnyT (P : Program) (md : Region.Mode) (ops : Array Oper) (Q : Exit → Act → World → Prop) (S : World → Prop) (m : Nat) : Nat → Array Bool → Act → World → Prop
  | 0, listed, a, w => Region.ready md ops listed = [] ∧ Q .normal a w
  | f + 1, listed, a, w => (Region.ready md ops listed = [] → Q .normal a w) ∧
      ∀ i ∈ Region.ready md ops listed, wpOp P ops Q i (fun a' w' => (i ≠ m → S w') ∧ AnyT P md ops Q S m f (listed.setIfInBounds i true) a' w') a w
theorem AnyT.any : ∀ {f : Nat} {listed : Array Bool} {a : Act} {w : World}, AnyT P md ops Q S m f listed a w → wpAny P md ops Q f listed a w
  | 0, _, _, _, h => h
  | _ + 1, _, _, _, h => ⟨h.1, fun i hi => wpOp_mono (fun _ _ h' => h'.2.any) (h.2 i hi)⟩
/-- each number of the list waits for the one ahead of it, the first for i; the last is m -/
def linksB (md : Region.Mode) (ops : Array Oper) (m : Nat) : Nat → List Nat → Bool
  | i, [] => i == m
  | i, c :: cs => (match ops[c]? with
      | some o => o.after.any fun e => Region.binds md e && e.on == i
      | none => false) && linksB md ops m c cs
theorem links_not {listed : Array Bool} : ∀ (cs : List Nat) (i : Nat), linksB md ops m i cs = true → listed.getD i true = false → (∀ c ∈ cs, listed.getD c true = false) → (∀ c ∈ cs, c ∉ Region.ready md ops listed) ∧ (cs ≠ [] → m ∈ cs) := by
  intro cs
  induction cs with
  | nil => intro i _ _ _; simp
  | cons c cs ih =>
    intro i hl hi hc
    simp only [linksB, Bool.and_eq_true] at hl
    obtain ⟨hl1, hl2⟩ := hl
    have hcc := hc c (by simp)
    obtain ⟨h1, h2⟩ := ih c hl2 hcc (fun d hd => hc d (by simp [hd]))
    have hcn : c ∉ Region.ready md ops listed := by
      intro hr
      obtain ⟨_, o, ho, hall⟩ := mem_ready.1 hr
      rw [ho] at hl1
      obtain ⟨e, he, hb⟩ := Array.any_eq_true'.1 hl1
      simp only [Bool.and_eq_true, beq_iff_eq] at hb
      have h3 := hall e he hb.1
      rw [hb.2] at h3
      rcases Nat.lt_or_ge i listed.size with h' | h'
      · simp [h'] at hi h3
        rw [hi] at h3
        cases h3
      · simp [Array.getElem?_eq_none h'] at hi
    refine ⟨fun d hd => ?_, fun _ => ?_⟩
    · rcases List.mem_cons.1 hd with rfl | hd
      · exact hcn
      · exact h1 d hd
    · cases cs with
      | nil =>
        simp only [linksB, beq_iff_eq] at hl2
        subst hl2
        simp
      | cons d ds => exact List.mem_cons_of_mem _ (h2 (by simp))
/-- number i may be taken first -/
theorem AnyT.first {i : Nat} {oi : Oper} {v : Value} {cs : List Nat} (hi : ops[i]? = some oi) (hsel : Region.noSelect ops = true) (hlk : linksB md ops m i cs = true) (hne : cs ≠ [])
    (hQ : ∀ c a w, Q (.panic c) (a.put oi.dst v) w → Q (.panic c) a w) :
    ∀ (f : Nat) (listed : Array Bool) (a : Act) (w : World), (∀ j oj, ops[j]? = some oj → j ≠ i → listed.getD j true = false → (∀ e ∈ oj.after, Region.binds md e = true → e.on ≠ i) → oi.apart ops oj = true) →
      (∀ c ∈ cs, listed.getD c true = false) → i ∈ Region.ready md ops listed → YieldsIf P ops S oi v a → S w →
      AnyT P md ops Q S m f (listed.setIfInBounds i true) (a.put oi.dst v) w → AnyT P md ops Q S m (f + 1) listed a w := by
  intro f
  induction f with
  | zero =>
    intro listed a w _ _ hr hy hS H
    refine ⟨fun h => absurd hr (by rw [h]; simp), fun j hj => ?_⟩
    by_cases hji : j = i
    · subst hji
      exact hy.wpOp hi hS ⟨fun _ => hS, H⟩
    · exact absurd (ready_mono hj hji) (by rw [H.1]; simp)
  | succ f ih =>
    intro listed a w hfree hcs hr hy hS H
    have hiu := (mem_ready.1 hr).1
    obtain ⟨hcr, hcm⟩ := links_not cs i hlk hiu hcs
    refine ⟨fun h => absurd hr (by rw [h]; simp), fun j hj => ?_⟩
    by_cases hji : j = i
    · subst hji
      exact hy.wpOp hi hS ⟨fun _ => hS, H⟩
    · have hjm : j ≠ m := fun h => hcr j (h ▸ hcm hne) hj
      have hjc : j ∉ cs := fun h => hcr j h hj
      obtain ⟨hju, oj, hoj, hall⟩ := mem_ready.1 hj
      have hno : ∀ e ∈ oj.after, Region.binds md e = true → e.on ≠ i := by
        intro e he hb heq
        have h1 := hall e he hb
        rw [heq] at h1
        rcases Nat.lt_or_ge i listed.size with h' | h'
        · simp [h'] at hiu h1
          rw [hiu] at h1
          cases h1
        · simp [Array.getElem?_eq_none h'] at hiu
      have h2 := wpOp_putIf hoj (hfree j oj hoj hji hju hno) (fun c b => Region.noSelect_spec hsel i oi c b hi) (fun c b => Region.noSelect_spec hsel j oj c b hoj) hQ hy (H.2 j (ready_mono hj hji))
      refine wpOp_mono (fun a' w' h3 => ?_) h2
      obtain ⟨h4, h5, h6⟩ := h3
      refine ⟨h5, ih (listed.setIfInBounds j true) a' w' (fun k ok hk hki hun hnk => ?_) (fun c hc => ?_) (ready_mono hr (Ne.symm hji)) h4 (h5 hjm) (by rw [Array.setIfInBounds_comm _ _ hji]; exact h6)⟩
      · by_cases hjk : j = k
        · subst hjk
          exact hfree j ok hk hki hju hnk
        · rw [getD_set_ne true hjk] at hun
          exact hfree k ok hk hki hun hnk
      · rw [getD_set_ne true (show j ≠ c from fun h => hjc (by rw [h]; exact hc))]
        exact hcs c hc
def unlB (listed : Array Bool) (cs : List Nat) : Bool := cs.all fun c => !listed.getD c true
theorem AnyT.take {i : Nat} {oi : Oper} {v : Value} {cs : List Nat} {f : Nat} {listed : Array Bool} {a : Act} {w : World} (hi : ops[i]? = some oi) (hsel : Region.noSelect ops = true) (hf : Region.free md ops listed i = true) (hr : (Region.ready md ops listed).contains i = true)
    (hlk : linksB md ops m i cs = true) (hne : cs.isEmpty = false) (hun : unlB listed cs = true) (hQ : ∀ c a w, Q (.panic c) (a.put oi.dst v) w → Q (.panic c) a w) (hS : S w)
    (hw : Region.wanted oi (yielded ops a.tmps) = true) (hy : ∀ w, S w → (execOp a.eval oi).run P w = .ok (.value v) w)
    (h : AnyT P md ops Q S m f (listed.setIfInBounds i true) (a.put oi.dst v) w) : AnyT P md ops Q S m (f + 1) listed a w :=
  AnyT.first hi hsel hlk (by cases cs <;> simp at hne ⊢) hQ f listed a w (Region.free_spec hi hf) (fun c hc => by
    simp only [unlB, List.all_eq_true, Bool.not_eq_true'] at hun
    exact hun c hc) (by simpa using hr) (.inl ⟨hw, hy⟩) hS h
/-- one alone may come up, not the last -/
theorem AnyT.one {i : Nat} {o : Oper} {f : Nat} {listed : Array Bool} {a : Act} {w : World} (hr : Region.ready md ops listed = [i]) (ho : ops[i]? = some o)
    (h : ∀ K : Act → World → Prop, Hid (∀ a w, S w → (S w → AnyT P md ops Q S m f (listed.setIfInBounds i true) a w) → K a w) → if Region.wanted o (yielded ops a.tmps) = true then Oper.wp P o a w K Q else K (a.put o.dst undef) w) : AnyT P md ops Q S m (f + 1) listed a w :=
  ⟨fun h0 => absurd (hr.symm.trans h0) (by simp), fun j hj => by
    obtain rfl : j = i := by simpa [hr] using hj
    exact wpOp_step ho (fun K hK => h K (Lib.hid fun a w hS hT => hK a w ⟨fun _ => hS, hT hS⟩))⟩
/-- the last comes up -/
theorem AnyT.last {o : Oper} {f : Nat} {listed : Array Bool} {a : Act} {w : World} (hr : Region.ready md ops listed = [m]) (ho : ops[m]? = some o) (hd : Region.ready md ops (listed.setIfInBounds m true) = [])
    (h : ∀ K : Act → World → Prop, Hid (∀ a w, Q .normal a w → K a w) → if Region.wanted o (yielded ops a.tmps) = true then Oper.wp P o a w K Q else K (a.put o.dst undef) w) : AnyT P md ops Q S m (f + 1) listed a w :=
  ⟨fun h0 => absurd (hr.symm.trans h0) (by simp), fun j hj => by
    obtain rfl : j = m := by simpa [hr] using hj
    refine wpOp_step ho (fun K hK => h K (Lib.hid fun a w hq => hK a w ⟨fun h => absurd rfl h, ?_⟩))
    cases f with
    | zero => exact ⟨hd, hq⟩
    | succ f => exact ⟨fun _ => hq, by rw [hd]; simp⟩⟩
theorem region_T {id : Nat} {a : Act} {w : World} (S : World → Prop) (m : Nat) (hm : P.follows .mixedOrders = true) (hS : S w.drew)
    (h : S w.drew → AnyT P .any ops Q S m ops.size (Array.replicate ops.size false) a w.drew) : (Code.region id ops true).wp P Q a w :=
  wp_region_any hm (h hS).any
end
end Go.Proofs.Ytbhobjepjaeffaa
namespace Go.Proofs.Ytbhobjepjaeffaa
open Go.RowKit
section
variable {P : Program} {ops : Array Oper} {Q : Exit → Act → World → Prop} {md : Region.Mode} {S : World → Prop} {m : Nat}
theorem AnyT.step1 {i : Nat} {o : Oper} {f : Nat} {listed : Array Bool} {a : Act} {w : World} (ho : ops[i]? = some o)
    (h : ∀ K : Act → World → Prop, Hid (∀ a w, S w → AnyT P md ops Q S m f (listed.setIfInBounds i true) a w → K a w) → if Region.wanted o (yielded ops a.tmps) = true then Oper.wp P o a w K Q else K (a.put o.dst undef) w) :
    wpOp P ops Q i (fun a' w' => (i ≠ m → S w') ∧ AnyT P md ops Q S m f (listed.setIfInBounds i true) a' w') a w :=
  wpOp_step ho (fun K hK => h K (Lib.hid fun a w hS hT => hK a w ⟨fun _ => hS, hT⟩))
theorem AnyT.some1 {i : Nat} {o : Oper} {f : Nat} {listed : Array Bool} {a : Act} {w : World} (hr : Region.ready md ops listed = [i]) (ho : ops[i]? = some o)
    (h : ∀ K : Act → World → Prop, Hid (∀ a w, S w → AnyT P md ops Q S m f (listed.setIfInBounds i true) a w → K a w) → if Region.wanted o (yielded ops a.tmps) = true then Oper.wp P o a w K Q else K (a.put o.dst undef) w) : AnyT P md ops Q S m (f + 1) listed a w :=
  ⟨fun h0 => absurd (hr.symm.trans h0) (by simp), fun j hj => by
    obtain rfl : j = i := by simpa [hr] using hj
    exact AnyT.step1 ho h⟩
theorem AnyT.some2 {i j : Nat} {o o2 : Oper} {f : Nat} {listed : Array Bool} {a : Act} {w : World} (hr : Region.ready md ops listed = [i, j]) (ho : ops[i]? = some o) (ho2 : ops[j]? = some o2)
    (h : ∀ K : Act → World → Prop, Hid (∀ a w, S w → AnyT P md ops Q S m f (listed.setIfInBounds i true) a w → K a w) → if Region.wanted o (yielded ops a.tmps) = true then Oper.wp P o a w K Q else K (a.put o.dst undef) w)
    (h2 : ∀ K : Act → World → Prop, Hid (∀ a w, S w → AnyT P md ops Q S m f (listed.setIfInBounds j true) a w → K a w) → if Region.wanted o2 (yielded ops a.tmps) = true then Oper.wp P o2 a w K Q else K (a.put o2.dst undef) w) : AnyT P md ops Q S m (f + 1) listed a w :=
  ⟨fun h0 => absurd (hr.symm.trans h0) (by simp), fun k hk => by
    have hk2 : k = i ∨ k = j := by simpa [hr] using hk
    rcases hk2 with rfl | rfl
    · exact AnyT.step1 ho h
    · exact AnyT.step1 ho2 h2⟩
theorem AnyT.some3 {i j l : Nat} {o o2 o3 : Oper} {f : Nat} {listed : Array Bool} {a : Act} {w : World} (hr : Region.ready md ops listed = [i, j, l]) (ho : ops[i]? = some o) (ho2 : ops[j]? = some o2) (ho3 : ops[l]? = some o3)
    (h : ∀ K : Act → World → Prop, Hid (∀ a w, S w → AnyT P md ops Q S m f (listed.setIfInBounds i true) a w → K a w) → if Region.wanted o (yielded ops a.tmps) = true then Oper.wp P o a w K Q else K (a.put o.dst undef) w)
    (h2 : ∀ K : Act → World → Prop, Hid (∀ a w, S w → AnyT P md ops Q S m f (listed.setIfInBounds j true) a w → K a w) → if Region.wanted o2 (yielded ops a.tmps) = true then Oper.wp P o2 a w K Q else K (a.put o2.dst undef) w)
    (h3 : ∀ K : Act → World → Prop, Hid (∀ a w, S w → AnyT P md ops Q S m f (listed.setIfInBounds l true) a w → K a w) → if Region.wanted o3 (yielded ops a.tmps) = true then Oper.wp P o3 a w K Q else K (a.put o3.dst undef) w) : AnyT P md ops Q S m (f + 1) listed a w :=
  ⟨fun h0 => absurd (hr.symm.trans h0) (by simp), fun k hk => by
    have hk2 : k = i ∨ k = j ∨ k = l := by simpa [hr] using hk
    rcases hk2 with rfl | rfl | rfl
    · exact AnyT.step1 ho h
    · exact AnyT.step1 ho2 h2
    · exact AnyT.step1 ho3 h3⟩
end
/-- two lists of the call's own and an object, in a world that has grown from Y -/
structure J3 {α β : Type} (T : Ty α) (U : Ty β) (e f : TypeId) (Y W : World) (va vb : Value) (xa : List α) (xb : List β) (Sa Sb : List Nat) (go : Nat) (o : Obj) : Prop where
  ha : Has (T.sl e) W [va] xa Sa
  hb : Has (U.sl f) W [vb] xb Sb
  hab : ∀ b ∈ Sa, b ∉ Sb
  la : ∀ b ∈ Sa, Y.heap.size ≤ b
  lb : ∀ b ∈ Sb, Y.heap.size ≤ b
  hg : Gro Y W
  ho : W.heap[go]? = some o
  hoa : go ∉ Sa
  hob : go ∉ Sb
section
variable {α β : Type} {T : Ty α} {U : Ty β} {e f : TypeId} {Y W W' : World} {va vb : Value} {xa : List α} {xb : List β} {Sa Sb : List Nat} {go : Nat} {o : Obj}
theorem J3.gro (h : J3 T U e f Y W va vb xa xb Sa Sb go o) (hg : Gro W W') : J3 T U e f Y W' va vb xa xb Sa Sb go o :=
  ⟨h.ha.gro hg, h.hb.gro hg, h.hab, h.la, h.lb, h.hg.trans hg, grow_blk h.ho hg, h.hoa, h.hob⟩
theorem J3.start (ho : Y.heap[go]? = some o) : J3 T U e f Y Y (.slice none 0 0) (.slice none 0 0) [] [] [] [] go o :=
  ⟨Has.nil _ _ _, Has.nil _ _ _, by simp, by simp, by simp, Gro.refl _, ho, by simp, by simp⟩
theorem J3.allocA (h : J3 T U e f Y W va vb xa xb Sa Sb go o) : J3 T U e f Y (W.alloc (.cells #[] e)) (.slice (some ⟨W.heap.size, 0, none⟩) 0 0) vb [] xb [W.heap.size] Sb go o := by
  have hl := (Array.getElem?_eq_some_iff.1 h.ho).1
  refine ⟨Has.emp T (heap_alloc_new _ _), h.hb.gro ((Gro.refl _).alloc _), fun b hb hm => ?_, fun b hb => ?_, h.lb, h.hg.alloc _, grow_blk h.ho ((Gro.refl _).alloc _), ?_, h.hob⟩
  · have := h.hb.lt b hm; simp at hb; omega
  · have := h.hg.size; simp at hb; omega
  · simp; omega
theorem J3.allocB (h : J3 T U e f Y W va vb xa xb Sa Sb go o) : J3 T U e f Y (W.alloc (.cells #[] f)) va (.slice (some ⟨W.heap.size, 0, none⟩) 0 0) xa [] Sa [W.heap.size] go o := by
  have hl := (Array.getElem?_eq_some_iff.1 h.ho).1
  refine ⟨h.ha.gro ((Gro.refl _).alloc _), Has.emp U (heap_alloc_new _ _), fun b hb hm => ?_, h.la, fun b hb => ?_, h.hg.alloc _, grow_blk h.ho ((Gro.refl _).alloc _), h.hoa, ?_⟩
  · have := h.ha.lt b hb; simp at hm; omega
  · have := h.hg.size; simp at hb; omega
  · simp; omega
theorem J3.allocO {cs : Array Value} {t : TypeId} (h : J3 T U e f Y W va vb xa xb Sa Sb go o) : J3 T U e f Y (W.alloc (.cells cs t)) va vb xa xb Sa Sb W.heap.size (.cells cs t (0, 0)) := by
  refine ⟨h.ha.gro ((Gro.refl _).alloc _), h.hb.gro ((Gro.refl _).alloc _), h.hab, h.la, h.lb, h.hg.alloc _, heap_alloc_new _ _, fun hm => ?_, fun hm => ?_⟩
  · have := h.ha.lt _ hm; omega
  · have := h.hb.lt _ hm; omega
theorem J3.appA {va' : Value} {xa' : List α} {Sa' : List Nat} (h : J3 T U e f Y W va vb xa xb Sa Sb go o) (hon : OnlyS Sa W W') (hH : Has (T.sl e) W' [va'] xa' Sa') (hS : ∀ b ∈ Sa', b ∈ Sa ∨ W.heap.size ≤ b) : J3 T U e f Y W' va' vb xa' xb Sa' Sb go o := by
  have hl := (Array.getElem?_eq_some_iff.1 h.ho).1
  refine ⟨hH, h.hb.keep hon (fun b hb hm => h.hab b hm hb), fun b hb hm => ?_, fun b hb => ?_, h.lb, hon.gro h.hg h.la, (hon.block go hl h.hoa).trans h.ho, fun hm => ?_, h.hob⟩
  · rcases hS b hb with h1 | h1
    · exact h.hab b h1 hm
    · have := h.hb.lt b hm; omega
  · rcases hS b hb with h1 | h1
    · exact h.la b h1
    · have := h.hg.size; omega
  · rcases hS go hm with h1 | h1
    · exact h.hoa h1
    · omega
theorem J3.appB {vb' : Value} {xb' : List β} {Sb' : List Nat} (h : J3 T U e f Y W va vb xa xb Sa Sb go o) (hon : OnlyS Sb W W') (hH : Has (U.sl f) W' [vb'] xb' Sb') (hS : ∀ b ∈ Sb', b ∈ Sb ∨ W.heap.size ≤ b) : J3 T U e f Y W' va vb' xa xb' Sa Sb' go o := by
  have hl := (Array.getElem?_eq_some_iff.1 h.ho).1
  refine ⟨h.ha.keep hon (fun b hb hm => h.hab b hb hm), hH, fun b hb hm => ?_, h.la, fun b hb => ?_, hon.gro h.hg h.lb, (hon.block go hl h.hob).trans h.ho, h.hoa, fun hm => ?_⟩
  · rcases hS b hm with h1 | h1
    · exact h.hab b hb h1
    · have := h.ha.lt b hb; omega
  · rcases hS b hb with h1 | h1
    · exact h.lb b h1
    · have := h.hg.size; omega
  · rcases hS go hm with h1 | h1
    · exact h.hob h1
    · omega
theorem J3.cell {p : Addr} {v : Value} (h : J3 T U e f Y W va vb xa xb Sa Sb go o) (hc : Y.cell? p = some v) : W.cell? p = some v := by
  obtain ⟨os, d, hw⟩ := h.hg
  rw [hw]
  exact gro_keeps hc os d
theorem J3.store {o' : Obj} (h : J3 T U e f Y W va vb xa xb Sa Sb go o) (hon : OnlyS [go] W W') (ho' : W'.heap[go]? = some o') (hgo : Y.heap.size ≤ go) : J3 T U e f Y W' va vb xa xb Sa Sb go o' :=
  ⟨h.ha.keep hon (fun b hb hm => h.hoa (by simp at hm; exact hm ▸ hb)), h.hb.keep hon (fun b hb hm => h.hob (by simp at hm; exact hm ▸ hb)), h.hab, h.la, h.lb, hon.gro h.hg (fun b hb => by simp at hb; omega), ho', h.hoa, h.hob⟩
end
end Go.Proofs.Ytbhobjepjaeffaa
namespace Go.Proofs.Ytbhobjepjaeffaa
open Go.RowKit
/-- the core's box and its machine's, the machine's lists the call's own -/
structure Cpu (W : World) (gc gm : Nat) (bad : Bool) (m : DMachine) (A : Option Addr) (c : Nat) (S : List Nat) (Ao : Option Addr) (co : Nat) (So : List Nat) : Prop where
  core : W.heap[gc]? = some (.cells #[.pointer (some ⟨gm, 0, none⟩), .bool bad] 174 (0, 0))
  mach : W.heap[gm]? = some (.cells #[.int .i64 m.Pc, .int .i64 m.Sp, .int .i64 m.Fp, .slice A m.Stack.length c, .slice Ao m.Out.length co, .int .i64 m.State, .int .i64 m.Value] 80 (0, 0))
  stack : Has (intT.sl 3) W [.slice A m.Stack.length c] m.Stack S
  out : Has (intT.sl 3) W [.slice Ao m.Out.length co] m.Out So
  dis : ∀ b ∈ S, b ∉ So
  cm : gc ≠ gm
  cs : gc ∉ S ∧ gc ∉ So ∧ gm ∉ S ∧ gm ∉ So
theorem Cpu.setBad {W : World} {gc gm : Nat} {bad : Bool} {m : DMachine} {A : Option Addr} {c : Nat} {S : List Nat} {Ao : Option Addr} {co : Nat} {So : List Nat} (h : Cpu W gc gm bad m A c S Ao co So) (b : Bool) : Cpu (W.setCell ⟨gc, 1, none⟩ (.bool b)) gc gm b m A c S Ao co So := by
  have ho : OnlyS [gc] W (W.setCell ⟨gc, 1, none⟩ (.bool b)) := (OnlyS.refl _ _).setCell (p := ⟨gc, 1, none⟩) (by simp) _
  refine ⟨set_at (i := 1) (v := .bool b) h.core rfl, (ho.block gm (Array.getElem?_eq_some_iff.1 h.mach).1 (by simpa using Ne.symm h.cm)).trans h.mach, h.stack.keep ho (fun x hx hm => ?_), h.out.keep ho (fun x hx hm => ?_), h.dis, h.cm, h.cs⟩
  · simp at hm; exact h.cs.1 (hm ▸ hx)
  · simp at hm; exact h.cs.2.1 (hm ▸ hx)
set_option maxRecDepth 100000 in
set_option maxHeartbeats 1000000 in
theorem at_i {W : World} {gc gm : Nat} {bad : Bool} {m : DMachine} {A : Option Addr} {c : Nat} {S : List Nat} {Ao : Option Addr} {co : Nat} {So : List Nat} {a : Int} (h : Cpu W gc gm bad m A c S Ao co So) :
    Calls Try.prog 133 #[.pointer (some ⟨gc, 0, none⟩), .int .i64 a] W fun r W' => r = .returned (.bool (!(bad || !btw a 0 1199))) ∧ Cpu W' gc gm (bad || !btw a 0 1199) m A c S Ao co So ∧ OnlyS [gc] W W' := by
  obtain ⟨y0, y1, yf0, yf1, yl⟩ := box2 h.core
  obtain ⟨b, hb⟩ : ∃ b, btw a 0 1199 = b := ⟨_, rfl⟩
  rw [hb]
  have HB := Lib.hid hb
  have HC := Lib.hid h
  clear hb h
  cases b with
  | true =>
    go_enter Try.func133, Try.ntmps133
    go_wp2_with (go_at_call 48; (with_reducible refine (in_i _ _ _ _).mono ?_); rw [HB.out]; rintro e w1 ⟨rfl, rfl⟩)
    go_ret
    exact ⟨by simp, by simpa using HC.out, OnlyS.refl _ _⟩
  | false =>
    go_enter Try.func133, Try.ntmps133
    go_wp2_with (go_at_call 48; (with_reducible refine (in_i _ _ _ _).mono ?_); rw [HB.out]; rintro e w1 ⟨rfl, rfl⟩)
    go_ret
    exact ⟨by simp, by simpa using HC.out.setBad true, (OnlyS.refl _ _).setCell (p := ⟨gc, 1, none⟩) (by simp) _⟩
end Go.Proofs.Ytbhobjepjaeffaa
namespace Go.Proofs.Ytbhobjepjaeffaa
open Go.RowKit
theorem Cpu.word {W : World} {gc gm : Nat} {bad : Bool} {m : DMachine} {A : Option Addr} {c : Nat} {S : List Nat} {Ao : Option Addr} {co : Nat} {So : List Nat} (h : Cpu W gc gm bad m A c S Ao co So) {k : Nat} (hk : k < m.Stack.length) :
    ∃ gs v, A = some ⟨gs, 0, none⟩ ∧ gs ∈ S ∧ gs < W.heap.size ∧ (∀ j, W.frozen? ⟨gs, j, none⟩ = false) ∧ m.Stack[k]? = some v ∧ I64 v ∧ W.cell? ⟨gs, k, none⟩ = some (.int .i64 v) ∧
      ∀ u, I64 u → Cpu (W.setCell ⟨gs, k, none⟩ (.int .i64 u)) gc gm bad { m with Stack := m.Stack.set k u } A c S Ao co So ∧ OnlyS S W (W.setCell ⟨gs, k, none⟩ (.int .i64 u)) := by
  obtain ⟨v, hv⟩ : ∃ v, m.Stack[k]? = some v := ⟨_, List.getElem?_eq_getElem hk⟩
  obtain ⟨gs, ec, Sc, hA, hgS, hgl, hgc, hsub, hnd, hO, hfr, hcell, hput, _⟩ := own_elem h.stack.1 h.stack.2 hv
  obtain ⟨rfl, b1, b2, rfl⟩ := hO
  have hc0 := hcell 0 _ rfl
  rw [show k * intT.size + 0 = k from by show k * 1 + 0 = k; omega] at hc0
  refine ⟨gs, v, hA, hgS, hgl, hfr, hv, ⟨b1, b2⟩, hc0, fun u hu => ?_⟩
  have hp := hput 0 (.int .i64 u) u (by decide) rfl ⟨rfl, hu.1, hu.2, rfl⟩
  rw [show k * intT.size + 0 = k from by show k * 1 + 0 = k; omega] at hp
  have hcS : gc ∉ S := h.cs.1
  have hmS : gm ∉ S := h.cs.2.2.1
  refine ⟨⟨(hp.2.block gc (Array.getElem?_eq_some_iff.1 h.core).1 hcS).trans h.core, ?_, ?_, h.out.keep hp.2 (fun x hx hm => h.dis x hm hx), h.dis, h.cm, h.cs⟩, hp.2⟩
  · have hm := (hp.2.block gm (Array.getElem?_eq_some_iff.1 h.mach).1 hmS).trans h.mach
    simpa only [List.length_set] using hm
  · have h9 : Has (intT.sl 3) (W.setCell ⟨gs, k, none⟩ (.int .i64 u)) [.slice A m.Stack.length c] (m.Stack.set k u) S := ⟨hp.1, h.stack.2⟩
    simpa only [List.length_set] using h9
end Go.Proofs.Ytbhobjepjaeffaa
namespace Go.Proofs.Ytbhobjepjaeffaa
open Go.RowKit
/-- a machine's numbers and lengths -/
structure MOk (N : Nat) (m : DMachine) : Prop where
  len : m.Stack.length = 1200
  out : m.Out.length ≤ N
  pc : I64 m.Pc
  sp : I64 m.Sp
  fp : I64 m.Fp
  st : I64 m.State
  va : I64 m.Value
structure CoreI (B : List (Nat × Obj)) (Y W : World) (N gc gm : Nat) (bad : Bool) (m : DMachine) (A : Option Addr) (c : Nat) (S : List Nat) (Ao : Option Addr) (co : Nat) (So : List Nat) : Prop where
  cpu : Cpu W gc gm bad m A c S Ao co So
  ok : MOk N m
  gro : Gro Y W
  lc : Y.heap.size ≤ gc
  lm : Y.heap.size ≤ gm
  ls : ∀ b ∈ S, Y.heap.size ≤ b
  lo : ∀ b ∈ So, Y.heap.size ≤ b
  kb : ∀ p ∈ B, W.heap[p.1]? = some p.2 ∧ p.1 ≠ gc ∧ p.1 ≠ gm ∧ p.1 ∉ S ∧ p.1 ∉ So
def StI (B : List (Nat × Obj)) (Y W : World) (N gc gm : Nat) (bad : Bool) (m : DMachine) : Prop :=
  ∃ A c S Ao co So, CoreI B Y W N gc gm bad m A c S Ao co So
/-- what the core comes to: none behind a word outside of the stack -/
def opt (bad : Bool) (m : DMachine) : Option DMachine := if bad = true then none else some m
/-- a number's cell of the machine put -/
theorem Cpu.num {W : World} {gc gm : Nat} {bad : Bool} {m m' : DMachine} {A : Option Addr} {c : Nat} {S : List Nat} {Ao : Option Addr} {co : Nat} {So : List Nat} (h : Cpu W gc gm bad m A c S Ao co So) {i : Nat} {v : Value} (hs : m'.Stack = m.Stack) (ho : m'.Out = m.Out)
    (hrow : (#[.int .i64 m.Pc, .int .i64 m.Sp, .int .i64 m.Fp, .slice A m.Stack.length c, .slice Ao m.Out.length co, .int .i64 m.State, .int .i64 m.Value] : Array Value).setIfInBounds i v = #[.int .i64 m'.Pc, .int .i64 m'.Sp, .int .i64 m'.Fp, .slice A m'.Stack.length c, .slice Ao m'.Out.length co, .int .i64 m'.State, .int .i64 m'.Value]) :
    Cpu (W.setCell ⟨gm, i, none⟩ v) gc gm bad m' A c S Ao co So := by
  have hon : OnlyS [gm] W (W.setCell ⟨gm, i, none⟩ v) := (OnlyS.refl _ _).setCell (p := ⟨gm, i, none⟩) (by simp) _
  refine ⟨(hon.block gc (Array.getElem?_eq_some_iff.1 h.core).1 (by simpa using h.cm)).trans h.core, set_at (i := i) (v := v) h.mach hrow, ?_, ?_, h.dis, h.cm, h.cs⟩
  · rw [hs]
    exact h.stack.keep hon (fun x hx hm => by simp at hm; exact h.cs.2.2.1 (hm ▸ hx))
  · rw [ho]
    exact h.out.keep hon (fun x hx hm => by simp at hm; exact h.cs.2.2.2 (hm ▸ hx))
theorem CoreI.only {B : List (Nat × Obj)} {Y W W' : World} {N gc gm : Nat} {bad bad' : Bool} {m m' : DMachine} {A : Option Addr} {c : Nat} {S : List Nat} {Ao : Option Addr} {co : Nat} {So : List Nat} {L : List Nat} (h : CoreI B Y W N gc gm bad m A c S Ao co So) (hc : Cpu W' gc gm bad' m' A c S Ao co So) (hk : MOk N m') (ho : OnlyS L W W') (hL : ∀ b ∈ L, b = gc ∨ b = gm ∨ b ∈ S ∨ b ∈ So) : CoreI B Y W' N gc gm bad' m' A c S Ao co So :=
  ⟨hc, hk, ho.gro h.gro (fun b hb => by
    rcases hL b hb with rfl | rfl | h1 | h1
    · exact h.lc
    · exact h.lm
    · exact h.ls b h1
    · exact h.lo b h1), h.lc, h.lm, h.ls, h.lo, fun p hp => by
    obtain ⟨h1, h2, h3, h4, h5⟩ := h.kb p hp
    refine ⟨(ho.block p.1 (Array.getElem?_eq_some_iff.1 h1).1 (fun hm => ?_)).trans h1, h2, h3, h4, h5⟩
    rcases hL p.1 hm with h6 | h6 | h6 | h6
    · exact h2 h6
    · exact h3 h6
    · exact h4 h6
    · exact h5 h6⟩
/-- a block that is kept -/
theorem StI.kept {B : List (Nat × Obj)} {Y W : World} {N gc gm : Nat} {bad : Bool} {m : DMachine} {g : Nat} {o : Obj} (h : StI B Y W N gc gm bad m) (hp : (g, o) ∈ B) : W.heap[g]? = some o := by
  obtain ⟨A, c, S, Ao, co, So, h⟩ := h
  exact (h.kb (g, o) hp).1
theorem StI.allocB {B : List (Nat × Obj)} {Y W : World} {N gc gm : Nat} {bad : Bool} {m : DMachine} {cs : Array Value} {t : TypeId} (h : StI B Y W N gc gm bad m) : StI ((W.heap.size, .cells cs t (0, 0)) :: B) Y (W.alloc (.cells cs t)) N gc gm bad m := by
  obtain ⟨A, c, S, Ao, co, So, h⟩ := h
  have hg : Gro W (W.alloc (.cells cs t)) := (Gro.refl _).alloc _
  refine ⟨A, c, S, Ao, co, So, ⟨grow_blk h.cpu.core hg, grow_blk h.cpu.mach hg, h.cpu.stack.gro hg, h.cpu.out.gro hg, h.cpu.dis, h.cpu.cm, h.cpu.cs⟩, h.ok, h.gro.trans hg, h.lc, h.lm, h.ls, h.lo, fun p hp => ?_⟩
  rcases List.mem_cons.1 hp with rfl | hp
  · refine ⟨heap_alloc_new _ _, ?_, ?_, fun hm => ?_, fun hm => ?_⟩
    · have := (Array.getElem?_eq_some_iff.1 h.cpu.core).1
      simp only [ne_eq]
      omega
    · have := (Array.getElem?_eq_some_iff.1 h.cpu.mach).1
      simp only [ne_eq]
      omega
    · have := h.cpu.stack.lt _ hm
      simp only at this
      omega
    · have := h.cpu.out.lt _ hm
      simp only at this
      omega
  · obtain ⟨h1, h2⟩ := h.kb p hp
    exact ⟨grow_blk h1 hg, h2⟩
theorem StI.drop {B B' : List (Nat × Obj)} {Y W : World} {N gc gm : Nat} {bad : Bool} {m : DMachine} (h : StI B Y W N gc gm bad m) (hs : ∀ p ∈ B', p ∈ B) : StI B' Y W N gc gm bad m := by
  obtain ⟨A, c, S, Ao, co, So, h⟩ := h
  exact ⟨A, c, S, Ao, co, So, h.cpu, h.ok, h.gro, h.lc, h.lm, h.ls, h.lo, fun p hp => h.kb p (hs p hp)⟩
/-- the core's cells -/
theorem StI.cells {B : List (Nat × Obj)} {Y W : World} {N gc gm : Nat} {bad : Bool} {m : DMachine} (h : StI B Y W N gc gm bad m) : ∃ A c Ao co,
    W.cell? ⟨gc, 0, none⟩ = some (.pointer (some ⟨gm, 0, none⟩)) ∧ W.cell? ⟨gc, 1, none⟩ = some (.bool bad) ∧ (∀ j, W.frozen? ⟨gc, j, none⟩ = false) ∧ gc < W.heap.size ∧
    W.cell? ⟨gm, 0, none⟩ = some (.int .i64 m.Pc) ∧ W.cell? ⟨gm, 1, none⟩ = some (.int .i64 m.Sp) ∧ W.cell? ⟨gm, 2, none⟩ = some (.int .i64 m.Fp) ∧ W.cell? ⟨gm, 3, none⟩ = some (.slice A m.Stack.length c) ∧ W.cell? ⟨gm, 4, none⟩ = some (.slice Ao m.Out.length co) ∧ W.cell? ⟨gm, 5, none⟩ = some (.int .i64 m.State) ∧ W.cell? ⟨gm, 6, none⟩ = some (.int .i64 m.Value) ∧ (∀ j, W.frozen? ⟨gm, j, none⟩ = false) ∧ gm < W.heap.size ∧ MOk N m := by
  obtain ⟨A, c, S, Ao, co, So, h⟩ := h
  obtain ⟨y0, y1, yf0, yf1, yl⟩ := box2 h.cpu.core
  obtain ⟨z0, z1, z2, z3, z4, z5, z6, zf, zl⟩ := row7 h.cpu.mach
  exact ⟨A, c, Ao, co, y0, y1, fun j => by simp [World.frozen?, h.cpu.core], yl, z0, z1, z2, z3, z4, z5, z6, zf, zl, h.ok⟩
/-- Pc, Sp, Fp, State, Value put -/
theorem StI.num {B : List (Nat × Obj)} {Y W : World} {N gc gm : Nat} {bad : Bool} {m m' : DMachine} (h : StI B Y W N gc gm bad m) {i : Nat} {v : Value} (hs : m'.Stack = m.Stack) (ho : m'.Out = m.Out) (hk : MOk N m')
    (hrow : ∀ x y, (#[.int .i64 m.Pc, .int .i64 m.Sp, .int .i64 m.Fp, x, y, .int .i64 m.State, .int .i64 m.Value] : Array Value).setIfInBounds i v = #[.int .i64 m'.Pc, .int .i64 m'.Sp, .int .i64 m'.Fp, x, y, .int .i64 m'.State, .int .i64 m'.Value]) : StI B Y (W.setCell ⟨gm, i, none⟩ v) N gc gm bad m' := by
  obtain ⟨A, c, S, Ao, co, So, h⟩ := h
  refine ⟨A, c, S, Ao, co, So, h.only (h.cpu.num hs ho (by rw [hrow, hs, ho])) hk (L := [gm]) ((OnlyS.refl _ _).setCell (p := ⟨gm, i, none⟩) (by simp) _) (fun b hb => by simp at hb; exact .inr (.inl hb))⟩
theorem StI.bad {B : List (Nat × Obj)} {Y W : World} {N gc gm : Nat} {bad : Bool} {m : DMachine} (h : StI B Y W N gc gm bad m) (b : Bool) : StI B Y (W.setCell ⟨gc, 1, none⟩ (.bool b)) N gc gm b m := by
  obtain ⟨A, c, S, Ao, co, So, h⟩ := h
  exact ⟨A, c, S, Ao, co, So, h.only (h.cpu.setBad b) h.ok (L := [gc]) ((OnlyS.refl _ _).setCell (p := ⟨gc, 1, none⟩) (by simp) _) (fun b hb => by simp at hb; exact .inl hb)⟩
theorem StI.word {B : List (Nat × Obj)} {Y W : World} {N gc gm : Nat} {bad : Bool} {m : DMachine} (h : StI B Y W N gc gm bad m) {k : Nat} (hk : k < 1200) :
    ∃ gs v c, W.cell? ⟨gm, 3, none⟩ = some (.slice (some ⟨gs, 0, none⟩) m.Stack.length c) ∧ gs < W.heap.size ∧ (∀ j, W.frozen? ⟨gs, j, none⟩ = false) ∧ m.Stack[k]? = some v ∧ I64 v ∧ W.cell? ⟨gs, k, none⟩ = some (.int .i64 v) ∧ gs ≠ gc ∧ gs ≠ gm ∧
      ∀ u, I64 u → StI B Y (W.setCell ⟨gs, k, none⟩ (.int .i64 u)) N gc gm bad { m with Stack := m.Stack.set k u } := by
  obtain ⟨A, c, S, Ao, co, So, h⟩ := h
  obtain ⟨gs, v, rfl, hS, hl, hf, hv, hb, hc, hput⟩ := h.cpu.word (k := k) (by rw [h.ok.len]; exact hk)
  obtain ⟨z0, z1, z2, z3, z4, z5, z6, zf, zl⟩ := row7 h.cpu.mach
  refine ⟨gs, v, c, z3, hl, hf, hv, hb, hc, fun e => h.cpu.cs.1 (e ▸ hS), fun e => h.cpu.cs.2.2.1 (e ▸ hS), fun u hu => ?_⟩
  obtain ⟨h1, h2⟩ := hput u hu
  exact ⟨_, c, S, Ao, co, So, h.only h1 ⟨by simpa using h.ok.len, h.ok.out, h.ok.pc, h.ok.sp, h.ok.fp, h.ok.st, h.ok.va⟩ h2 (fun b hb => .inr (.inr (.inl hb)))⟩
theorem StI.at_ {B : List (Nat × Obj)} {Y W : World} {N gc gm : Nat} {bad : Bool} {m : DMachine} {a : Int} (h : StI B Y W N gc gm bad m) :
    Calls Try.prog 133 #[.pointer (some ⟨gc, 0, none⟩), .int .i64 a] W fun r W' => r = .returned (.bool (!(bad || !btw a 0 1199))) ∧ StI B Y W' N gc gm (bad || !btw a 0 1199) m := by
  obtain ⟨A, c, S, Ao, co, So, h⟩ := h
  refine (at_i h.cpu (a := a)).mono ?_
  rintro r W' ⟨h1, h2, h3⟩
  exact ⟨h1, A, c, S, Ao, co, So, h.only h2 h.ok h3 (fun b hb => by simp at hb; exact .inl hb)⟩
theorem StI.at4 {B : List (Nat × Obj)} {Y W : World} {N gc gm : Nat} {bad : Bool} {m : DMachine} {a : Int} (h : StI B Y W N gc gm bad m) :
    Calls Try.prog 133 #[.pointer (some ⟨gc, 0, none⟩), .int .i64 a] W fun r W' => r = .returned (.bool (!(bad || !btw a 0 1199))) ∧ StI B Y W' N gc gm (bad || !btw a 0 1199) m ∧ ∀ i v, W.cell? ⟨gm, i, none⟩ = some v → W'.cell? ⟨gm, i, none⟩ = some v := by
  obtain ⟨A, c, S, Ao, co, So, h⟩ := h
  refine (at_i h.cpu (a := a)).mono ?_
  rintro r W' ⟨h1, h2, h3⟩
  exact ⟨h1, ⟨A, c, S, Ao, co, So, h.only h2 h.ok h3 (fun b hb => by simp at hb; exact .inl hb)⟩, fun i v hv => (h3.cell (Array.getElem?_eq_some_iff.1 h.cpu.mach).1 (by simpa using Ne.symm h.cpu.cm) i).trans hv⟩
theorem cPush_opt {o : Option DMachine} {b : Bool} {m : DMachine} {v : Int} {K : DMachine → Option DMachine} (h : opt b m = o.bind fun m => cPush m v) : (o.bind fun m => (cPush m v).bind K) = (opt b m).bind K := by
  rw [h, Option.bind_assoc]
theorem cPop_opt {γ : Type} {o : Option DMachine} {b : Bool} {m : DMachine} {v : Int} {K : DMachine × Int → Option γ} (h : (opt b m).map (fun m => (m, v)) = o.bind cPop) : (o.bind fun m => (cPop m).bind K) = (opt b m).bind fun m => K (m, v) := by
  rw [← Option.bind_assoc, ← h]
  cases opt b m <;> rfl
theorem cAt_in {m : DMachine} {a v : Int} (hb : btw a 0 1199 = true) (h : m.Stack[a.toNat]? = some v) : cAt m a = some v := by
  unfold cAt
  rw [if_pos hb, h]
theorem cAt_out {m : DMachine} {a : Int} (hb : btw a 0 1199 = false) : cAt m a = none := by
  unfold cAt
  rw [hb]
  rfl
end Go.Proofs.Ytbhobjepjaeffaa
namespace Go.Proofs.Ytbhobjepjaeffaa
open Go.RowKit
theorem row8 {W : World} {g : Nat} {o0 o1 o2 o3 o4 o5 o6 o7 : Value} {e : TypeId} (h : W.heap[g]? = some (.cells #[o0, o1, o2, o3, o4, o5, o6, o7] e (0, 0))) :
    W.cell? ⟨g, 0, none⟩ = some o0 ∧ W.cell? ⟨g, 1, none⟩ = some o1 ∧ W.cell? ⟨g, 2, none⟩ = some o2 ∧ W.cell? ⟨g, 3, none⟩ = some o3 ∧ W.cell? ⟨g, 4, none⟩ = some o4 ∧ W.cell? ⟨g, 5, none⟩ = some o5 ∧ W.cell? ⟨g, 6, none⟩ = some o6 ∧ W.cell? ⟨g, 7, none⟩ = some o7 ∧ (∀ j, W.frozen? ⟨g, j, none⟩ = false) ∧ g < W.heap.size := by
  refine ⟨?_, ?_, ?_, ?_, ?_, ?_, ?_, ?_, fun j => by simp [World.frozen?, h], (Array.getElem?_eq_some_iff.1 h).1⟩
  all_goals
    rw [cell_of_row W g _ _ _ (0, 0) h]
    rfl
structure CoreS (B : List (Nat × Obj)) (Y W : World) (N gc : Nat) (bad : Bool) (m : DMachine) (A : Option Addr) (c : Nat) (S : List Nat) (Ao : Option Addr) (co : Nat) (So : List Nat) : Prop where
  core : W.heap[gc]? = some (.cells #[.int .i64 m.Pc, .int .i64 m.Sp, .int .i64 m.Fp, .slice A m.Stack.length c, .slice Ao m.Out.length co, .int .i64 m.State, .int .i64 m.Value, .bool bad] 164 (0, 0))
  stack : Has (intT.sl 3) W [.slice A m.Stack.length c] m.Stack S
  out : Has (intT.sl 3) W [.slice Ao m.Out.length co] m.Out So
  dis : ∀ b ∈ S, b ∉ So
  cs : gc ∉ S ∧ gc ∉ So
  ok : MOk N m
  gro : Gro Y W
  lc : Y.heap.size ≤ gc
  ls : ∀ b ∈ S, Y.heap.size ≤ b
  lo : ∀ b ∈ So, Y.heap.size ≤ b
  kb : ∀ p ∈ B, W.heap[p.1]? = some p.2 ∧ p.1 ≠ gc ∧ p.1 ∉ S ∧ p.1 ∉ So
def StS (B : List (Nat × Obj)) (Y W : World) (N gc : Nat) (bad : Bool) (m : DMachine) : Prop :=
  ∃ A c S Ao co So, CoreS B Y W N gc bad m A c S Ao co So
theorem StS.cells {B : List (Nat × Obj)} {Y W : World} {N gc : Nat} {bad : Bool} {m : DMachine} (h : StS B Y W N gc bad m) : ∃ A c Ao co,
    W.cell? ⟨gc, 0, none⟩ = some (.int .i64 m.Pc) ∧ W.cell? ⟨gc, 1, none⟩ = some (.int .i64 m.Sp) ∧ W.cell? ⟨gc, 2, none⟩ = some (.int .i64 m.Fp) ∧ W.cell? ⟨gc, 3, none⟩ = some (.slice A m.Stack.length c) ∧ W.cell? ⟨gc, 4, none⟩ = some (.slice Ao m.Out.length co) ∧ W.cell? ⟨gc, 5, none⟩ = some (.int .i64 m.State) ∧ W.cell? ⟨gc, 6, none⟩ = some (.int .i64 m.Value) ∧ W.cell? ⟨gc, 7, none⟩ = some (.bool bad) ∧ (∀ j, W.frozen? ⟨gc, j, none⟩ = false) ∧ gc < W.heap.size ∧ MOk N m := by
  obtain ⟨A, c, S, Ao, co, So, h⟩ := h
  obtain ⟨z0, z1, z2, z3, z4, z5, z6, z7, zf, zl⟩ := row8 h.core
  exact ⟨A, c, Ao, co, z0, z1, z2, z3, z4, z5, z6, z7, zf, zl, h.ok⟩
/-- Pc, Sp, Fp, State, Value, bad put -/
theorem StS.num {B : List (Nat × Obj)} {Y W : World} {N gc : Nat} {bad bad' : Bool} {m m' : DMachine} (h : StS B Y W N gc bad m) {i : Nat} {v : Value} (hs : m'.Stack = m.Stack) (ho : m'.Out = m.Out) (hk : MOk N m')
    (hrow : ∀ x y, (#[.int .i64 m.Pc, .int .i64 m.Sp, .int .i64 m.Fp, x, y, .int .i64 m.State, .int .i64 m.Value, .bool bad] : Array Value).setIfInBounds i v = #[.int .i64 m'.Pc, .int .i64 m'.Sp, .int .i64 m'.Fp, x, y, .int .i64 m'.State, .int .i64 m'.Value, .bool bad']) : StS B Y (W.setCell ⟨gc, i, none⟩ v) N gc bad' m' := by
  obtain ⟨A, c, S, Ao, co, So, h⟩ := h
  have hon : OnlyS [gc] W (W.setCell ⟨gc, i, none⟩ v) := (OnlyS.refl _ _).setCell (p := ⟨gc, i, none⟩) (by simp) _
  refine ⟨A, c, S, Ao, co, So, set_at (i := i) (v := v) h.core (by rw [hrow, hs, ho]), ?_, ?_, h.dis, h.cs, hk, hon.gro h.gro (fun b hb => by simp at hb; exact hb ▸ h.lc), h.lc, h.ls, h.lo, fun p hp => ?_⟩
  · rw [hs]
    exact h.stack.keep hon (fun x hx hm => by simp at hm; exact h.cs.1 (hm ▸ hx))
  · rw [ho]
    exact h.out.keep hon (fun x hx hm => by simp at hm; exact h.cs.2 (hm ▸ hx))
  · obtain ⟨h1, h2, h3⟩ := h.kb p hp
    exact ⟨(hon.block p.1 (Array.getElem?_eq_some_iff.1 h1).1 (by simpa using h2)).trans h1, h2, h3⟩
theorem StS.kept {B : List (Nat × Obj)} {Y W : World} {N gc : Nat} {bad : Bool} {m : DMachine} {g : Nat} {o : Obj} (h : StS B Y W N gc bad m) (hp : (g, o) ∈ B) : W.heap[g]? = some o := by
  obtain ⟨A, c, S, Ao, co, So, h⟩ := h
  exact (h.kb (g, o) hp).1
theorem StS.gro {B : List (Nat × Obj)} {Y W W' : World} {N gc : Nat} {bad : Bool} {m : DMachine} (h : StS B Y W N gc bad m) (hg : Gro W W') : StS B Y W' N gc bad m := by
  obtain ⟨A, c, S, Ao, co, So, h⟩ := h
  exact ⟨A, c, S, Ao, co, So, grow_blk h.core hg, h.stack.gro hg, h.out.gro hg, h.dis, h.cs, h.ok, h.gro.trans hg, h.lc, h.ls, h.lo, fun p hp => ⟨grow_blk (h.kb p hp).1 hg, (h.kb p hp).2⟩⟩
theorem StS.allocB {B : List (Nat × Obj)} {Y W : World} {N gc : Nat} {bad : Bool} {m : DMachine} {cs : Array Value} {t : TypeId} (h : StS B Y W N gc bad m) : StS ((W.heap.size, .cells cs t (0, 0)) :: B) Y (W.alloc (.cells cs t)) N gc bad m := by
  obtain ⟨A, c, S, Ao, co, So, h⟩ := h
  have hg : Gro W (W.alloc (.cells cs t)) := (Gro.refl _).alloc _
  refine ⟨A, c, S, Ao, co, So, grow_blk h.core hg, h.stack.gro hg, h.out.gro hg, h.dis, h.cs, h.ok, h.gro.trans hg, h.lc, h.ls, h.lo, fun p hp => ?_⟩
  rcases List.mem_cons.1 hp with rfl | hp
  · refine ⟨heap_alloc_new _ _, ?_, fun hm => ?_, fun hm => ?_⟩
    · have := (Array.getElem?_eq_some_iff.1 h.core).1
      simp only [ne_eq]
      omega
    · have := h.stack.lt _ hm
      simp only at this
      omega
    · have := h.out.lt _ hm
      simp only at this
      omega
  · obtain ⟨h1, h2⟩ := h.kb p hp
    exact ⟨grow_blk h1 hg, h2⟩
theorem StS.drop {B B' : List (Nat × Obj)} {Y W : World} {N gc : Nat} {bad : Bool} {m : DMachine} (h : StS B Y W N gc bad m) (hs : ∀ p ∈ B', p ∈ B) : StS B' Y W N gc bad m := by
  obtain ⟨A, c, S, Ao, co, So, h⟩ := h
  exact ⟨A, c, S, Ao, co, So, h.core, h.stack, h.out, h.dis, h.cs, h.ok, h.gro, h.lc, h.ls, h.lo, fun p hp => h.kb p (hs p hp)⟩
theorem StS.word {B : List (Nat × Obj)} {Y W : World} {N gc : Nat} {bad : Bool} {m : DMachine} (h : StS B Y W N gc bad m) {k : Nat} (hk : k < 1200) :
    ∃ gs v c, W.cell? ⟨gc, 3, none⟩ = some (.slice (some ⟨gs, 0, none⟩) m.Stack.length c) ∧ gs < W.heap.size ∧ (∀ j, W.frozen? ⟨gs, j, none⟩ = false) ∧ m.Stack[k]? = some v ∧ I64 v ∧ W.cell? ⟨gs, k, none⟩ = some (.int .i64 v) ∧ gs ≠ gc ∧
      ∀ u, I64 u → StS B Y (W.setCell ⟨gs, k, none⟩ (.int .i64 u)) N gc bad { m with Stack := m.Stack.set k u } := by
  obtain ⟨A, c, S, Ao, co, So, h⟩ := h
  obtain ⟨v, hv⟩ : ∃ v, m.Stack[k]? = some v := ⟨_, List.getElem?_eq_getElem (by rw [h.ok.len]; exact hk)⟩
  obtain ⟨gs, ec, Sc, rfl, hgS, hgl, hgc, hsub, hnd, hO, hfr, hcell, hput, _⟩ := own_elem h.stack.1 h.stack.2 hv
  obtain ⟨rfl, b1, b2, rfl⟩ := hO
  have hc0 := hcell 0 _ rfl
  rw [show k * intT.size + 0 = k from by show k * 1 + 0 = k; omega] at hc0
  obtain ⟨z0, z1, z2, z3, z4, z5, z6, z7, zf, zl⟩ := row8 h.core
  refine ⟨gs, v, c, z3, hgl, hfr, hv, ⟨b1, b2⟩, hc0, fun e => h.cs.1 (e ▸ hgS), fun u hu => ?_⟩
  have hp := hput 0 (.int .i64 u) u (by decide) rfl ⟨rfl, hu.1, hu.2, rfl⟩
  rw [show k * intT.size + 0 = k from by show k * 1 + 0 = k; omega] at hp
  refine ⟨some ⟨gs, 0, none⟩, c, S, Ao, co, So, ?_, ?_, h.out.keep hp.2 (fun x hx hm => h.dis x hm hx), h.dis, h.cs, ⟨by simpa using h.ok.len, h.ok.out, h.ok.pc, h.ok.sp, h.ok.fp, h.ok.st, h.ok.va⟩, hp.2.gro h.gro h.ls, h.lc, h.ls, h.lo, fun p hp' => ⟨(hp.2.block p.1 (Array.getElem?_eq_some_iff.1 (h.kb p hp').1).1 (h.kb p hp').2.2.1).trans (h.kb p hp').1, (h.kb p hp').2⟩⟩
  · have hm := (hp.2.block gc (Array.getElem?_eq_some_iff.1 h.core).1 h.cs.1).trans h.core
    simpa only [List.length_set] using hm
  · have h9 : Has (intT.sl 3) (W.setCell ⟨gs, k, none⟩ (.int .i64 u)) [.slice (some ⟨gs, 0, none⟩) m.Stack.length c] (m.Stack.set k u) S := ⟨hp.1, h.stack.2⟩
    simpa only [List.length_set] using h9
end Go.Proofs.Ytbhobjepjaeffaa
namespace Go.Proofs.Ytbhobjepjaeffaa
open Go.RowKit
theorem grow_cell {a b : World} (h : Gro a b) {p : Addr} {v : Value} (hp : a.cell? p = some v) : b.cell? p = some v := by
  obtain ⟨os, d, rfl⟩ := h
  exact gro_keeps hp os d
theorem Cpu.gro {W W' : World} {gc gm : Nat} {bad : Bool} {m : DMachine} {A : Option Addr} {c : Nat} {S : List Nat} {Ao : Option Addr} {co : Nat} {So : List Nat} (h : Cpu W gc gm bad m A c S Ao co So) (hg : Gro W W') : Cpu W' gc gm bad m A c S Ao co So :=
  ⟨grow_blk h.core hg, grow_blk h.mach hg, h.stack.gro hg, h.out.gro hg, h.dis, h.cm, h.cs⟩
theorem StI.gro {B : List (Nat × Obj)} {Y W W' : World} {N gc gm : Nat} {bad : Bool} {m : DMachine} (h : StI B Y W N gc gm bad m) (hg : Gro W W') : StI B Y W' N gc gm bad m := by
  obtain ⟨A, c, S, Ao, co, So, h⟩ := h
  exact ⟨A, c, S, Ao, co, So, h.cpu.gro hg, h.ok, h.gro.trans hg, h.lc, h.lm, h.ls, h.lo, fun p hp => ⟨grow_blk (h.kb p hp).1 hg, (h.kb p hp).2⟩⟩
/-- the machine's fifth cell, Out, is as it was -/
def Keep4 (gm : Nat) (W W' : World) : Prop := ∀ v, W.cell? ⟨gm, 4, none⟩ = some v → W'.cell? ⟨gm, 4, none⟩ = some v
/-- what a method without results leaves: its law f of the machine -/
def ActI (f : DMachine → Option DMachine) (B : List (Nat × Obj)) (Y : World) (N gc gm : Nat) (bad : Bool) (m : DMachine) (r : Ending) (W' : World) : Prop :=
  r = .returned (.tuple #[]) ∧ ∃ b' m', StI B Y W' N gc gm b' m' ∧ opt b' m' = (opt bad m).bind f
def PopI (B : List (Nat × Obj)) (Y : World) (N gc gm : Nat) (bad : Bool) (m : DMachine) (r : Ending) (W' : World) : Prop :=
  ∃ v b' m', I64 v ∧ r = .returned (.int .i64 v) ∧ StI B Y W' N gc gm b' m' ∧ (opt b' m').map (fun m => (m, v)) = (opt bad m).bind cPop
theorem at_val {sp : Int} {bad : Bool} (hs : I64 sp) : (bad || !btw (wrap64 (sp - 1)) 0 1199) = (bad || !btw sp 1 1200) := by
  cases bad with
  | true => rfl
  | false =>
    simp only [Bool.false_or]
    congr 1
    rw [Bool.eq_iff_iff, btw_iff, btw_iff]
    unfold wrap64
    have := hs.1
    have := hs.2
    omega
theorem push_none {bad : Bool} {m : DMachine} {v : Int} (h : (bad || !btw m.Sp 1 1200) = true) : (opt bad m).bind (fun m => cPush m v) = none := by
  cases bad with
  | true => rfl
  | false =>
    show cPush m v = none
    unfold cPush
    rw [if_neg]
    intro h2
    rw [h2] at h
    cases h
theorem push_some {m : DMachine} {v : Int} (h : btw m.Sp 1 1200 = true) : (opt false m).bind (fun m => cPush m v) = some { m with Sp := m.Sp - 1, Stack := m.Stack.set (m.Sp - 1).toNat v } := by
  show cPush m v = _
  unfold cPush
  rw [if_pos h]
set_option maxRecDepth 100000 in
set_option maxHeartbeats 2000000 in
theorem push_i {B : List (Nat × Obj)} {Y W : World} {N gc gm : Nat} {bad : Bool} {m : DMachine} {v : Int} (h : StI B Y W N gc gm bad m) (hv : I64 v) :
    Calls Try.prog 154 #[.pointer (some ⟨gc, 0, none⟩), .int .i64 v] W (ActI (fun m => cPush m v) B Y N gc gm bad m) := by
  obtain ⟨A, c, Ao, co, y0, y1, yf, yl, z0, z1, z2, z3, z4, z5, z6, zf, zl, hk⟩ := h.cells
  obtain ⟨q, hq⟩ : ∃ q, (bad || !btw m.Sp 1 1200) = q := ⟨_, rfl⟩
  have HA := Lib.hid ((at_val (bad := bad) hk.sp).trans hq)
  cases q with
  | true =>
    have HQ := Lib.hid (push_none (v := v) hq)
    have HK := Lib.hid hk
    have HC := Lib.hid h
    clear hq h hk
    go_enter Try.func154, Try.ntmps154
    go_wp2_with (go_at_call 133; (with_reducible refine (HC.out.at_).mono ?_); rw [HA.out]; rintro e w1 ⟨rfl, hC1⟩)
    exact bodyPost_end (v := .tuple #[]) (by simp [results, Try.results154, go_sem]) rfl ⟨rfl, true, m, hC1, HQ.out.symm⟩
  | false =>
    obtain ⟨rfl, hb⟩ : bad = false ∧ btw m.Sp 1 1200 = true := by simpa using hq
    have hbb := btw_iff.1 hb
    have HQ := Lib.hid (push_some (v := v) hb)
    obtain ⟨k, hk2⟩ := Int.eq_ofNat_of_zero_le (show 0 ≤ m.Sp - 1 by omega)
    have hsp : m.Sp = ((k + 1 : Nat) : Int) := by omega
    have hk12 : k < 1200 := by omega
    have HC := Lib.hid h
    have HA2 := Lib.hid (show (false || !btw (k : Int) 0 1199) = false from by rw [Bool.false_or, btw_mk (by omega) (by omega)]; rfl)
    clear hq h hb HA
    go_enter Try.func154, Try.ntmps154
    go_upto_region 2 with (go_at_call 133; (with_reducible refine (HC.out.at_ (a := (k : Int))).mono ?_); rw [HA2.out]; rintro e w1 ⟨rfl, hC1⟩; obtain ⟨A1, c1, Ao1, co1, t0, t1, tf, tl, u0, u1, u2, u3, u4, u5, u6, uf, ul, hk1⟩ := hC1.cells)
    have hI : I64 (k : Int) := ⟨by omega, by omega⟩
    have hC2 := hC1.num (i := 1) (v := .int .i64 (k : Int)) (m' := { m with Sp := (k : Int) }) rfl rfl ⟨hk1.len, hk1.out, hk1.pc, hI, hk1.fp, hk1.st, hk1.va⟩ (fun _ _ => rfl)
    generalize w1.setCell ⟨gm, 1, none⟩ (.int .i64 (k : Int)) = w2 at hC2 ⊢
    clear t0 t1 tf tl u0 u1 u2 u3 u4 u5 u6 uf ul
    obtain ⟨A2, c2, Ao2, co2, t0, t1, tf, tl, u0, u1, u2, u3, u4, u5, u6, uf, ul, hk2'⟩ := hC2.cells
    obtain ⟨gs, vo, cs, x3, xl, xf, xv, xb, xc, xg1, xg2, xput⟩ := hC2.word hk12
    have hlen : ((1200 : Nat) : Int) = m.Stack.length := by rw [hk1.len]
    have hki : (k : Int) < (m.Stack.length : Int) := by rw [← hlen]; omega
    have hgc : gc ≠ gs := xg1.symm
    have hgm : gm ≠ gs := xg2.symm
    clear u3
    go_region_held3 (fun w' => w'.cell? ⟨gc, 0, none⟩ = some (.pointer (some ⟨gm, 0, none⟩)) ∧ w'.cell? ⟨gm, 1, none⟩ = some (.int .i64 (k : Int)) ∧ w'.cell? ⟨gm, 3, none⟩ = some (.slice (some ⟨gs, 0, none⟩) m.Stack.length cs)) ((repeat' apply And.intro) <;> ((repeat (first | with_reducible assumption | with_reducible refine gro_keeps ?_ _ _ | with_reducible refine alloc_keeps ?_ _ | with_reducible refine drew_keeps ?_ | with_reducible refine keep_set ?_ ?_)); done)) (first | fail)
    exact bodyPost_end (v := .tuple #[]) (by simp [results, Try.results154, go_sem]) rfl ⟨rfl, false, _, (xput v hv).gro (by repeat (first | with_reducible exact Gro.refl _ | with_reducible exact Gro.refl_drew _ _ _ | with_reducible exact Gro.refl_drewN _ _ _ _ | assumption | with_reducible apply Gro.more | with_reducible apply Gro.alloc | with_reducible apply Gro.drew | with_reducible apply Gro.drewN)), by rw [HQ.out]; show some _ = some _; rw [hsp, show ((k + 1 : Nat) : Int) - 1 = (k : Int) from by omega]; rfl⟩
theorem pop_none {bad : Bool} {m : DMachine} (h : (bad || !btw m.Sp 0 1199) = true) : (opt bad m).bind cPop = none := by
  cases bad with
  | true => rfl
  | false =>
    show cPop m = none
    unfold cPop
    rw [cAt_out (by simpa using h)]
    rfl
set_option maxRecDepth 100000 in
set_option maxHeartbeats 2000000 in
theorem pop_i4 {B : List (Nat × Obj)} {Y W : World} {N gc gm : Nat} {bad : Bool} {m : DMachine} (h : StI B Y W N gc gm bad m) :
    Calls Try.prog 157 #[.pointer (some ⟨gc, 0, none⟩)] W (fun r W' => PopI B Y N gc gm bad m r W' ∧ Keep4 gm W W') := by
  obtain ⟨A, c, Ao, co, y0, y1, yf, yl, z0, z1, z2, z3, z4, z5, z6, zf, zl, hk⟩ := h.cells
  obtain ⟨q, hq⟩ : ∃ q, (bad || !btw m.Sp 0 1199) = q := ⟨_, rfl⟩
  have HA := Lib.hid hq
  cases q with
  | true =>
    have HQ := Lib.hid (pop_none hq)
    have HK := Lib.hid hk
    have HC := Lib.hid h
    clear hq h hk
    go_enter Try.func157, Try.ntmps157
    go_wp2_with (go_at_call 133; (with_reducible refine (HC.out.at4).mono ?_); rw [HA.out]; rintro e w1 ⟨rfl, hC1, hK1⟩)
    go_ret
    exact ⟨⟨0, true, m, ⟨by decide, by decide⟩, rfl, hC1, HQ.out.symm⟩, fun v hv => hK1 4 v hv⟩
  | false =>
    obtain ⟨rfl, hb⟩ : bad = false ∧ btw m.Sp 0 1199 = true := by simpa using hq
    have hbb := btw_iff.1 hb
    obtain ⟨k, hsp⟩ := Int.eq_ofNat_of_zero_le (show 0 ≤ m.Sp by omega)
    have hk12 : k < 1200 := by omega
    obtain ⟨_, vo, _, _, _, _, xv0, xb0, _⟩ := h.word hk12
    have HQ := Lib.hid (show (opt false m).bind cPop = some ({ m with Sp := m.Sp + 1 }, vo) from by
      show cPop m = _
      unfold cPop
      rw [cAt_in hb (v := vo) (by rw [hsp]; exact xv0)]
      rfl)
    have HV := Lib.hid xv0
    have HC := Lib.hid h
    have HA2 := Lib.hid (show (false || !btw (k : Int) 0 1199) = false from by rw [Bool.false_or, btw_mk (by omega) (by omega)]; rfl)
    clear hq h hb HA xv0
    go_enter Try.func157, Try.ntmps157
    go_upto_region 4 with (go_at_call 133; (with_reducible refine (HC.out.at4 (a := (k : Int))).mono ?_); rw [HA2.out]; rintro e w1 ⟨rfl, hC1, hK1⟩; obtain ⟨A1, c1, Ao1, co1, t0, t1, tf, tl, u0, u1, u2, u3, u4, u5, u6, uf, ul, hk1⟩ := hC1.cells)
    have hI : I64 ((k : Int) + 1) := ⟨by omega, by omega⟩
    have hC2 := hC1.num (i := 1) (v := .int .i64 ((k : Int) + 1)) (m' := { m with Sp := (k : Int) + 1 }) rfl rfl ⟨hk1.len, hk1.out, hk1.pc, hI, hk1.fp, hk1.st, hk1.va⟩ (fun _ _ => rfl)
    have hK2 : ∀ v, W.cell? ⟨gm, 4, none⟩ = some v → (w1.setCell ⟨gm, 1, none⟩ (.int .i64 ((k : Int) + 1))).cell? ⟨gm, 4, none⟩ = some v := fun v hv => (World.cell?_setCell_other w1 ⟨gm, 1, none⟩ ⟨gm, 4, none⟩ _ (by simp)).trans (hK1 4 v hv)
    generalize w1.setCell ⟨gm, 1, none⟩ (.int .i64 ((k : Int) + 1)) = w2 at hC2 hK2 ⊢
    have HK2 := Lib.hid hK2
    clear hK1 hK2
    clear t0 t1 tf tl u0 u1 u2 u3 u4 u5 u6 uf ul
    obtain ⟨A2, c2, Ao2, co2, t0, t1, tf, tl, u0, u1, u2, u3, u4, u5, u6, uf, ul, hk2'⟩ := hC2.cells
    obtain ⟨gs, vp, cs, x3, xl, xf, xv, xb, xc, xg1, xg2, xput⟩ := hC2.word hk12
    obtain rfl : vo = vp := by have := HV.out.symm.trans xv; injection this
    have hlen : ((1200 : Nat) : Int) = m.Stack.length := by rw [hk1.len]
    have hki : (k : Int) < (m.Stack.length : Int) := by rw [← hlen]; omega
    have hwr : IntKind.i64.wrap ((k : Int) + 1 - 1) = (k : Int) := by rw [show (k : Int) + 1 - 1 = (k : Int) from by omega]; exact IntWalk.i64_in _ ⟨by omega, by omega⟩
    clear u3
    go_quiet (fail)
    go_wp2
    go_ret
    exact ⟨⟨vo, false, _, xb, rfl, hC2.gro (by repeat (first | with_reducible exact Gro.refl _ | with_reducible exact Gro.refl_drew _ _ _ | with_reducible exact Gro.refl_drewN _ _ _ _ | assumption | with_reducible apply Gro.more | with_reducible apply Gro.alloc | with_reducible apply Gro.drew | with_reducible apply Gro.drewN)), by rw [HQ.out, hsp]; rfl⟩, fun v hv => grow_cell (by (repeat' (first | with_reducible exact Gro.refl _ | with_reducible exact Gro.refl_drew _ _ _ | with_reducible exact Gro.refl_drewN _ _ _ _ | assumption | with_reducible apply Gro.more | with_reducible apply Gro.alloc | with_reducible apply Gro.drew | with_reducible apply Gro.drewN))) (HK2.out v hv)⟩
theorem pop_i {B : List (Nat × Obj)} {Y W : World} {N gc gm : Nat} {bad : Bool} {m : DMachine} (h : StI B Y W N gc gm bad m) :
    Calls Try.prog 157 #[.pointer (some ⟨gc, 0, none⟩)] W (PopI B Y N gc gm bad m) := (pop_i4 h).mono fun _ _ h => h.1
end Go.Proofs.Ytbhobjepjaeffaa
namespace Go.Proofs.Ytbhobjepjaeffaa
open Go.RowKit
set_option maxRecDepth 100000 in
set_option maxHeartbeats 2000000 in
theorem load_i {B : List (Nat × Obj)} {Y W : World} {N gc gm : Nat} {bad : Bool} {m : DMachine} {a : Int} (h : StI B Y W N gc gm bad m) :
    Calls Try.prog 155 #[.pointer (some ⟨gc, 0, none⟩), .int .i64 a] W (ActI (fun m => (cAt m a).bind fun v => cPush m v) B Y N gc gm bad m) := by
  obtain ⟨A, c, Ao, co, y0, y1, yf, yl, z0, z1, z2, z3, z4, z5, z6, zf, zl, hk⟩ := h.cells
  obtain ⟨q, hq⟩ : ∃ q, (bad || !btw a 0 1199) = q := ⟨_, rfl⟩
  have HA := Lib.hid hq
  cases q with
  | true =>
    have HQ := Lib.hid (show (opt bad m).bind (fun m => (cAt m a).bind fun v => cPush m v) = none from by
      cases bad with
      | true => rfl
      | false =>
        show (cAt m a).bind _ = none
        rw [cAt_out (by simpa using hq)]
        rfl)
    have HC := Lib.hid h
    clear hq h hk
    go_enter Try.func155, Try.ntmps155
    go_wp2_with (go_at_call 133; (with_reducible refine (HC.out.at_).mono ?_); rw [HA.out]; rintro e w1 ⟨rfl, hC1⟩)
    exact bodyPost_end (v := .tuple #[]) (by simp [results, Try.results155, go_sem]) rfl ⟨rfl, true, m, hC1, HQ.out.symm⟩
  | false =>
    obtain ⟨rfl, hb⟩ : bad = false ∧ btw a 0 1199 = true := by simpa using hq
    have hbb := btw_iff.1 hb
    obtain ⟨k, rfl⟩ := Int.eq_ofNat_of_zero_le (show 0 ≤ a by omega)
    have hk12 : k < 1200 := by omega
    obtain ⟨_, v, _, _, _, _, xv0, xb0, _⟩ := h.word hk12
    have HQ := Lib.hid (show (opt false m).bind (fun m => (cAt m (k : Int)).bind fun v => cPush m v) = (opt false m).bind (fun m => cPush m v) from by
      show (cAt m (k : Int)).bind _ = cPush m v
      rw [cAt_in hb (v := v) xv0]
      rfl)
    have HV := Lib.hid xv0
    have HC := Lib.hid h
    clear hq h hb xv0
    go_enter Try.func155, Try.ntmps155
    go_upto_region 1 with (go_at_call 133; (with_reducible refine (HC.out.at_).mono ?_); rw [HA.out]; rintro e w1 ⟨rfl, hC1⟩)
    obtain ⟨A1, c1, Ao1, co1, t0, t1, tf, tl, u0, u1, u2, u3, u4, u5, u6, uf, ul, hk1⟩ := hC1.cells
    obtain ⟨gs, vp, cs, x3, xl, xf, xv, xb, xc, xg1, xg2, xput⟩ := hC1.word hk12
    obtain rfl : v = vp := by have := HV.out.symm.trans xv; injection this
    have hlen : ((1200 : Nat) : Int) = m.Stack.length := by rw [hk1.len]
    have hki : (k : Int) < (m.Stack.length : Int) := by rw [← hlen]; omega
    have HC1 := Lib.hid hC1
    clear u3 hC1
    go_wp2_with (go_at_call 154; (with_reducible refine (push_i HC1.out xb).mono ?_); rintro e w2 ⟨rfl, b2, m2, hC2, ho2⟩)
    exact bodyPost_end (v := .tuple #[]) (by simp [results, Try.results155, go_sem]) rfl ⟨rfl, b2, m2, hC2, ho2.trans HQ.out.symm⟩
set_option maxRecDepth 100000 in
set_option maxHeartbeats 2000000 in
theorem store_i {B : List (Nat × Obj)} {Y W : World} {N gc gm : Nat} {bad : Bool} {m : DMachine} {a : Int} (h : StI B Y W N gc gm bad m) :
    Calls Try.prog 156 #[.pointer (some ⟨gc, 0, none⟩), .int .i64 a] W (ActI (fun m => (cPop m).bind fun p => cPut p.1 a p.2) B Y N gc gm bad m) := by
  obtain ⟨A, c, Ao, co, y0, y1, yf, yl, z0, z1, z2, z3, z4, z5, z6, zf, zl, hk⟩ := h.cells
  have HC := Lib.hid h
  clear h hk
  go_enter Try.func156, Try.ntmps156
  go_upto_region 1 with (go_at_call 157; (with_reducible refine (pop_i HC.out).mono ?_); rintro e w1 ⟨v, b1, m1, hv, rfl, hC1, ho1⟩)
  obtain ⟨q, hq⟩ : ∃ q, (b1 || !btw a 0 1199) = q := ⟨_, rfl⟩
  have HA := Lib.hid hq
  have HO := Lib.hid (cPop_opt (K := fun p => cPut p.1 a p.2) ho1)
  clear ho1
  cases q with
  | true =>
    have HQ := Lib.hid (show (opt b1 m1).bind (fun m => cPut m a v) = none from by
      cases b1 with
      | true => rfl
      | false =>
        show cPut m1 a v = none
        unfold cPut
        rw [if_neg (by simpa using hq)])
    have HC1 := Lib.hid hC1
    clear hq hC1
    go_wp2_with (go_at_call 133; (with_reducible refine (HC1.out.at_).mono ?_); rw [HA.out]; rintro e w2 ⟨rfl, hC2⟩)
    exact bodyPost_end (v := .tuple #[]) (by simp [results, Try.results156, go_sem]) rfl ⟨rfl, true, m1, hC2, (HO.out.trans HQ.out).symm⟩
  | false =>
    obtain ⟨rfl, hb⟩ : b1 = false ∧ btw a 0 1199 = true := by simpa using hq
    have hbb := btw_iff.1 hb
    obtain ⟨k, rfl⟩ := Int.eq_ofNat_of_zero_le (show 0 ≤ a by omega)
    have hk12 : k < 1200 := by omega
    have HQ := Lib.hid (show (opt false m1).bind (fun m => cPut m (k : Int) v) = opt false { m1 with Stack := m1.Stack.set k v } from by
      show cPut m1 (k : Int) v = _
      unfold cPut
      rw [if_pos hb, Int.toNat_natCast]
      rfl)
    have HC1 := Lib.hid hC1
    clear hq hC1 hb
    go_upto_region 2 with (go_at_call 133; (with_reducible refine (HC1.out.at_).mono ?_); rw [HA.out]; rintro e w2 ⟨rfl, hC2⟩)
    obtain ⟨A1, c1, Ao1, co1, t0, t1, tf, tl, u0, u1, u2, u3, u4, u5, u6, uf, ul, hk1⟩ := hC2.cells
    obtain ⟨gs, vp, cs, x3, xl, xf, xv, xb, xc, xg1, xg2, xput⟩ := hC2.word hk12
    have hlen : ((1200 : Nat) : Int) = m1.Stack.length := by rw [hk1.len]
    have hki : (k : Int) < (m1.Stack.length : Int) := by rw [← hlen]; omega
    clear u3 hC2
    go_wp2_with (fail)
    exact bodyPost_end (v := .tuple #[]) (by simp [results, Try.results156, go_sem]) rfl ⟨rfl, false, _, xput v hv, (HO.out.trans HQ.out).symm⟩
set_option maxRecDepth 100000 in
set_option maxHeartbeats 2000000 in
theorem drop_i {B : List (Nat × Obj)} {Y W : World} {N gc gm : Nat} {bad : Bool} {m : DMachine} {n : Int} (h : StI B Y W N gc gm bad m) (hn : I64 n) :
    Calls Try.prog 160 #[.pointer (some ⟨gc, 0, none⟩), .int .i64 n] W (ActI (fun m => cDrop n.toNat m) B Y N gc gm bad m) := by
  have hn1 := hn.1
  have hn2 := hn.2
  go_enter Try.func160, Try.ntmps160
  go_wp2
  go_loopw [1] (fun a wr => ∃ (k : Int) (b1 : Bool) (m1 : DMachine), a = .int .i64 k ∧ -9223372036854775808 ≤ k ∧ k ≤ 9223372036854775807 ∧ Hid (StI B Y wr N gc gm b1 m1) ∧ Hid ((opt bad m).bind (fun m => cDrop n.toNat m) = (opt b1 m1).bind fun m => cDrop k.toNat m)) (fun a _ => (intOf a).toNat)
  case atStart => exact ⟨n, bad, m, rfl, hn1, hn2, Lib.hid h, Lib.hid rfl⟩
  case round =>
    obtain ⟨k, b1, m1, rfl, hk1, hk2, hS, hO⟩ := hrel
    by_cases hlt : 0 < k
    · go_wp2_with (go_at_call 157; (with_reducible refine (pop_i hS.out).mono ?_); rintro e w1 ⟨v, b2, m2, hv, rfl, hC2, ho2⟩)
      go_roundw
      case measure => (simp [intOf]; try omega)
      case rel =>
        refine ⟨k - 1, b2, m2, by simp, by omega, by omega, Lib.hid hC2, Lib.hid (hO.out.trans ?_)⟩
        have h3 : k.toNat = (k - 1).toNat + 1 := by omega
        rw [h3]
        exact cPop_opt (K := fun p => cDrop (k - 1).toNat p.1) ho2
    · go_wp2_with (fail)
      refine bodyPost_end (v := .tuple #[]) (by simp [results, Try.results160, go_sem]) rfl ⟨rfl, b1, m1, hS.out, ?_⟩
      rw [hO.out, show k.toNat = 0 from by omega]
      cases b1 <;> rfl
set_option maxRecDepth 100000 in
set_option maxHeartbeats 2000000 in
theorem zeros_i {B : List (Nat × Obj)} {Y W : World} {N gc gm : Nat} {bad : Bool} {m : DMachine} {n : Int} (h : StI B Y W N gc gm bad m) (hn : I64 n) :
    Calls Try.prog 159 #[.pointer (some ⟨gc, 0, none⟩), .int .i64 n] W (ActI (fun m => cZeros n.toNat m) B Y N gc gm bad m) := by
  have hz : I64 0 := ⟨by decide, by decide⟩
  have hn1 := hn.1
  have hn2 := hn.2
  go_enter Try.func159, Try.ntmps159
  go_wp2
  go_loopw [1] (fun a wr => ∃ (k : Int) (b1 : Bool) (m1 : DMachine), a = .int .i64 k ∧ -9223372036854775808 ≤ k ∧ k ≤ 9223372036854775807 ∧ Hid (StI B Y wr N gc gm b1 m1) ∧ Hid ((opt bad m).bind (fun m => cZeros n.toNat m) = (opt b1 m1).bind fun m => cZeros k.toNat m)) (fun a _ => (intOf a).toNat)
  case atStart => exact ⟨n, bad, m, rfl, hn1, hn2, Lib.hid h, Lib.hid rfl⟩
  case round =>
    obtain ⟨k, b1, m1, rfl, hk1, hk2, hS, hO⟩ := hrel
    by_cases hlt : 0 < k
    · go_wp2_with (go_at_call 154; (with_reducible refine (push_i (v := 0) hS.out hz).mono ?_); rintro e w1 ⟨rfl, b2, m2, hC2, ho2⟩)
      go_roundw
      case measure => (simp [intOf]; try omega)
      case rel =>
        refine ⟨k - 1, b2, m2, by simp, by omega, by omega, Lib.hid hC2, Lib.hid (hO.out.trans ?_)⟩
        have h3 : k.toNat = (k - 1).toNat + 1 := by omega
        rw [h3]
        exact cPush_opt (K := fun m => cZeros (k - 1).toNat m) ho2
    · go_wp2_with (fail)
      refine bodyPost_end (v := .tuple #[]) (by simp [results, Try.results159, go_sem]) rfl ⟨rfl, b1, m1, hS.out, ?_⟩
      rw [hO.out, show k.toNat = 0 from by omega]
      cases b1 <;> rfl
end Go.Proofs.Ytbhobjepjaeffaa
namespace Go.Proofs.Ytbhobjepjaeffaa
open Go.RowKit
theorem and_w32 (n : Int) : bits .and .i64 n 4294967295 = n % 4294967296 := by
  have h0 : (BitVec.ofInt 64 4294967295).toNat = 2 ^ 32 - 1 := by decide
  have key : (BitVec.ofInt 64 n &&& BitVec.ofInt 64 4294967295).toNat = (n % ((2 ^ 64 : Nat) : Int)).toNat % 2 ^ 32 := by
    rw [BitVec.toNat_and, BitVec.toNat_ofInt, h0, Nat.and_two_pow_sub_one_eq_mod]
  show IntKind.i64.wrap ((BitVec.ofInt 64 n &&& BitVec.ofInt 64 4294967295).toNat : Nat) = n % 4294967296
  rw [key, IntKind.wrap_i64]
  omega
theorem w32_bd (n : Int) : -2147483648 ≤ w32 n ∧ w32 n ≤ 2147483647 := by unfold w32; omega
theorem w32_64 (n : Int) : I64 (w32 n) := by have := w32_bd n; exact ⟨by omega, by omega⟩
set_option maxRecDepth 100000 in
theorem wrap_i {x : Int} {w : World} (hx : I64 x) : Calls Try.prog 164 #[.int .i64 x] w fun r w' => r = .returned (.int .i64 (w32 x)) ∧ w' = w := by
  have h1 : wrap64 (wrap32 (x % 4294967296)) = w32 x := by unfold wrap64 wrap32 w32; omega
  have H := Lib.hid h1
  clear h1
  go_enter Try.func164, Try.ntmps164
  go_wp2_with (fail)
  rw [H.out]
  go_ret
  exact ⟨rfl, rfl⟩
set_option maxRecDepth 100000 in
theorem wrap_s {x : Int} {w : World} (hx : I64 x) : Calls Try.prog 163 #[.int .i64 x] w fun r w' => r = .returned (.int .i64 (w32 x)) ∧ w' = w := by
  have h0 := and_w32 x
  by_cases q : (2147483647 : Int) < x % 4294967296
  · have h1 : w32 x = x % 4294967296 - 4294967296 := by unfold w32; omega
    have h2 : wrap64 (x % 4294967296 - 4294967296) = x % 4294967296 - 4294967296 := by unfold wrap64; omega
    have H := Lib.hid h1
    clear h1
    go_enter Try.func163, Try.ntmps163
    go_wp2_with (fail)
    rw [H.out]
    go_ret
    exact ⟨rfl, rfl⟩
  · have h1 : w32 x = x % 4294967296 := by unfold w32; omega
    have H := Lib.hid h1
    clear h1
    go_enter Try.func163, Try.ntmps163
    go_wp2_with (fail)
    rw [H.out]
    go_ret
    exact ⟨rfl, rfl⟩
end Go.Proofs.Ytbhobjepjaeffaa
namespace Go.Proofs.Ytbhobjepjaeffaa
open Go.RowKit
set_option maxRecDepth 100000 in
set_option maxHeartbeats 2000000 in
theorem applyC_i {k a b : Int} {w : World} (hk : 2 ≤ k ∧ k ≤ 6) (ha : I64 a) (hb : I64 b) : Calls Try.prog 158 #[.int .i64 k, .int .i64 a, .int .i64 b] w fun r w' => r = .returned (.int .i64 (applyC (k + 3) a b)) ∧ w' = w := by
  obtain ⟨A, hA⟩ : ∃ A, w32 a = A := ⟨_, rfl⟩
  obtain ⟨B, hB⟩ : ∃ B, w32 b = B := ⟨_, rfl⟩
  have bA := w32_bd a
  have bB := w32_bd b
  rw [hA] at bA
  rw [hB] at bB
  have HA := Lib.hid hA
  have HB := Lib.hid hB
  have hcase : k = 2 ∨ k = 3 ∨ k = 4 ∨ k = 5 ∨ k = 6 := by omega
  have sg1 : wrap64 (A + B) = A + B := by unfold wrap64; omega
  have sg2 : wrap64 (A - B) = A - B := by unfold wrap64; omega
  have hmul : -4611686018427387904 ≤ A * B ∧ A * B ≤ 4611686018427387904 := by
    have h1 : (A * B).natAbs ≤ 2147483648 * 2147483648 := by rw [Int.natAbs_mul]; exact Nat.mul_le_mul (by omega) (by omega)
    omega
  have sg3 : wrap64 (A * B) = A * B := by unfold wrap64; omega
  have j1 : I64 (A + B) := ⟨by omega, by omega⟩
  have j2 : I64 (A - B) := ⟨by omega, by omega⟩
  have j3 : I64 (A * B) := ⟨by omega, by omega⟩
  clear hA hB
  rcases hcase with rfl | rfl | rfl | rfl | rfl
  · have HQ := Lib.hid (show applyC (2 + 3) a b = w32 (A + B) from by unfold applyC; rw [HA.out, HB.out]; rfl)
    go_enter Try.func158, Try.ntmps158
    go_wp2_with (go_at_call 164; first
      | (with_reducible refine (wrap_i (x := a) ha).mono ?_; rw [HA.out]; rintro e w1 ⟨rfl, rfl⟩)
      | (with_reducible refine (wrap_i (x := b) hb).mono ?_; rw [HB.out]; rintro e w1 ⟨rfl, rfl⟩)
      | (with_reducible refine (wrap_i (x := A + B) j1).mono ?_; rintro e w1 ⟨rfl, rfl⟩))
    rw [HQ.out]
    go_ret
    exact ⟨rfl, rfl⟩
  · have HQ := Lib.hid (show applyC (3 + 3) a b = w32 (A - B) from by unfold applyC; rw [HA.out, HB.out]; rfl)
    go_enter Try.func158, Try.ntmps158
    go_wp2_with (go_at_call 164; first
      | (with_reducible refine (wrap_i (x := a) ha).mono ?_; rw [HA.out]; rintro e w1 ⟨rfl, rfl⟩)
      | (with_reducible refine (wrap_i (x := b) hb).mono ?_; rw [HB.out]; rintro e w1 ⟨rfl, rfl⟩)
      | (with_reducible refine (wrap_i (x := A - B) j2).mono ?_; rintro e w1 ⟨rfl, rfl⟩))
    rw [HQ.out]
    go_ret
    exact ⟨rfl, rfl⟩
  · have HQ := Lib.hid (show applyC (4 + 3) a b = w32 (A * B) from by unfold applyC; rw [HA.out, HB.out]; rfl)
    go_enter Try.func158, Try.ntmps158
    go_wp2_with (go_at_call 164; first
      | (with_reducible refine (wrap_i (x := a) ha).mono ?_; rw [HA.out]; rintro e w1 ⟨rfl, rfl⟩)
      | (with_reducible refine (wrap_i (x := b) hb).mono ?_; rw [HB.out]; rintro e w1 ⟨rfl, rfl⟩)
      | (with_reducible refine (wrap_i (x := A * B) j3).mono ?_; rintro e w1 ⟨rfl, rfl⟩))
    rw [HQ.out]
    go_ret
    exact ⟨rfl, rfl⟩
  · by_cases q : A < B
    · have HQ := Lib.hid (show applyC (5 + 3) a b = 1 from by unfold applyC; rw [HA.out, HB.out]; exact if_pos q)
      go_enter Try.func158, Try.ntmps158
      go_wp2_with (go_at_call 164; first
        | (with_reducible refine (wrap_i (x := a) ha).mono ?_; rw [HA.out]; rintro e w1 ⟨rfl, rfl⟩)
        | (with_reducible refine (wrap_i (x := b) hb).mono ?_; rw [HB.out]; rintro e w1 ⟨rfl, rfl⟩))
      rw [HQ.out]
      go_ret
      exact ⟨rfl, rfl⟩
    · have HQ := Lib.hid (show applyC (5 + 3) a b = 0 from by unfold applyC; rw [HA.out, HB.out]; exact if_neg q)
      go_enter Try.func158, Try.ntmps158
      go_wp2_with (go_at_call 164; first
        | (with_reducible refine (wrap_i (x := a) ha).mono ?_; rw [HA.out]; rintro e w1 ⟨rfl, rfl⟩)
        | (with_reducible refine (wrap_i (x := b) hb).mono ?_; rw [HB.out]; rintro e w1 ⟨rfl, rfl⟩))
      rw [HQ.out]
      go_ret
      exact ⟨rfl, rfl⟩
  · by_cases q : A = B
    · have HQ := Lib.hid (show applyC (6 + 3) a b = 1 from by unfold applyC; rw [HA.out, HB.out]; exact if_pos q)
      go_enter Try.func158, Try.ntmps158
      go_wp2_with (go_at_call 164; first
        | (with_reducible refine (wrap_i (x := a) ha).mono ?_; rw [HA.out]; rintro e w1 ⟨rfl, rfl⟩)
        | (with_reducible refine (wrap_i (x := b) hb).mono ?_; rw [HB.out]; rintro e w1 ⟨rfl, rfl⟩))
      rw [HQ.out]
      go_ret
      exact ⟨rfl, rfl⟩
    · have HQ := Lib.hid (show applyC (6 + 3) a b = 0 from by unfold applyC; rw [HA.out, HB.out]; exact if_neg q)
      go_enter Try.func158, Try.ntmps158
      go_wp2_with (go_at_call 164; first
        | (with_reducible refine (wrap_i (x := a) ha).mono ?_; rw [HA.out]; rintro e w1 ⟨rfl, rfl⟩)
        | (with_reducible refine (wrap_i (x := b) hb).mono ?_; rw [HB.out]; rintro e w1 ⟨rfl, rfl⟩))
      rw [HQ.out]
      go_ret
      exact ⟨rfl, rfl⟩
set_option maxRecDepth 100000 in
set_option maxHeartbeats 2000000 in
theorem applyC_s {k a b : Int} {w : World} (hk : 2 ≤ k ∧ k ≤ 6) (ha : I64 a) (hb : I64 b) : Calls Try.prog 151 #[.int .i64 k, .int .i64 a, .int .i64 b] w fun r w' => r = .returned (.int .i64 (applyC (k + 3) a b)) ∧ w' = w := by
  obtain ⟨A, hA⟩ : ∃ A, w32 a = A := ⟨_, rfl⟩
  obtain ⟨B, hB⟩ : ∃ B, w32 b = B := ⟨_, rfl⟩
  have bA := w32_bd a
  have bB := w32_bd b
  rw [hA] at bA
  rw [hB] at bB
  have HA := Lib.hid hA
  have HB := Lib.hid hB
  have hcase : k = 2 ∨ k = 3 ∨ k = 4 ∨ k = 5 ∨ k = 6 := by omega
  have sg1 : wrap64 (A + B) = A + B := by unfold wrap64; omega
  have sg2 : wrap64 (A - B) = A - B := by unfold wrap64; omega
  have hmul : -4611686018427387904 ≤ A * B ∧ A * B ≤ 4611686018427387904 := by
    have h1 : (A * B).natAbs ≤ 2147483648 * 2147483648 := by rw [Int.natAbs_mul]; exact Nat.mul_le_mul (by omega) (by omega)
    omega
  have sg3 : wrap64 (A * B) = A * B := by unfold wrap64; omega
  have j1 : I64 (A + B) := ⟨by omega, by omega⟩
  have j2 : I64 (A - B) := ⟨by omega, by omega⟩
  have j3 : I64 (A * B) := ⟨by omega, by omega⟩
  clear hA hB
  rcases hcase with rfl | rfl | rfl | rfl | rfl
  · have HQ := Lib.hid (show applyC (2 + 3) a b = w32 (A + B) from by unfold applyC; rw [HA.out, HB.out]; rfl)
    go_enter Try.func151, Try.ntmps151
    go_wp2_with (go_at_call 163; first
      | (with_reducible refine (wrap_s (x := a) ha).mono ?_; rw [HA.out]; rintro e w1 ⟨rfl, rfl⟩)
      | (with_reducible refine (wrap_s (x := b) hb).mono ?_; rw [HB.out]; rintro e w1 ⟨rfl, rfl⟩)
      | (with_reducible refine (wrap_s (x := A + B) j1).mono ?_; rintro e w1 ⟨rfl, rfl⟩))
    rw [HQ.out]
    go_ret
    exact ⟨rfl, rfl⟩
  · have HQ := Lib.hid (show applyC (3 + 3) a b = w32 (A - B) from by unfold applyC; rw [HA.out, HB.out]; rfl)
    go_enter Try.func151, Try.ntmps151
    go_wp2_with (go_at_call 163; first
      | (with_reducible refine (wrap_s (x := a) ha).mono ?_; rw [HA.out]; rintro e w1 ⟨rfl, rfl⟩)
      | (with_reducible refine (wrap_s (x := b) hb).mono ?_; rw [HB.out]; rintro e w1 ⟨rfl, rfl⟩)
      | (with_reducible refine (wrap_s (x := A - B) j2).mono ?_; rintro e w1 ⟨rfl, rfl⟩))
    rw [HQ.out]
    go_ret
    exact ⟨rfl, rfl⟩
  · have HQ := Lib.hid (show applyC (4 + 3) a b = w32 (A * B) from by unfold applyC; rw [HA.out, HB.out]; rfl)
    go_enter Try.func151, Try.ntmps151
    go_wp2_with (go_at_call 163; first
      | (with_reducible refine (wrap_s (x := a) ha).mono ?_; rw [HA.out]; rintro e w1 ⟨rfl, rfl⟩)
      | (with_reducible refine (wrap_s (x := b) hb).mono ?_; rw [HB.out]; rintro e w1 ⟨rfl, rfl⟩)
      | (with_reducible refine (wrap_s (x := A * B) j3).mono ?_; rintro e w1 ⟨rfl, rfl⟩))
    rw [HQ.out]
    go_ret
    exact ⟨rfl, rfl⟩
  · by_cases q : A < B
    · have HQ := Lib.hid (show applyC (5 + 3) a b = 1 from by unfold applyC; rw [HA.out, HB.out]; exact if_pos q)
      go_enter Try.func151, Try.ntmps151
      go_wp2_with (go_at_call 163; first
        | (with_reducible refine (wrap_s (x := a) ha).mono ?_; rw [HA.out]; rintro e w1 ⟨rfl, rfl⟩)
        | (with_reducible refine (wrap_s (x := b) hb).mono ?_; rw [HB.out]; rintro e w1 ⟨rfl, rfl⟩))
      rw [HQ.out]
      go_ret
      exact ⟨rfl, rfl⟩
    · have HQ := Lib.hid (show applyC (5 + 3) a b = 0 from by unfold applyC; rw [HA.out, HB.out]; exact if_neg q)
      go_enter Try.func151, Try.ntmps151
      go_wp2_with (go_at_call 163; first
        | (with_reducible refine (wrap_s (x := a) ha).mono ?_; rw [HA.out]; rintro e w1 ⟨rfl, rfl⟩)
        | (with_reducible refine (wrap_s (x := b) hb).mono ?_; rw [HB.out]; rintro e w1 ⟨rfl, rfl⟩))
      rw [HQ.out]
      go_ret
      exact ⟨rfl, rfl⟩
  · by_cases q : A = B
    · have HQ := Lib.hid (show applyC (6 + 3) a b = 1 from by unfold applyC; rw [HA.out, HB.out]; exact if_pos q)
      go_enter Try.func151, Try.ntmps151
      go_wp2_with (go_at_call 163; first
        | (with_reducible refine (wrap_s (x := a) ha).mono ?_; rw [HA.out]; rintro e w1 ⟨rfl, rfl⟩)
        | (with_reducible refine (wrap_s (x := b) hb).mono ?_; rw [HB.out]; rintro e w1 ⟨rfl, rfl⟩))
      rw [HQ.out]
      go_ret
      exact ⟨rfl, rfl⟩
    · have HQ := Lib.hid (show applyC (6 + 3) a b = 0 from by unfold applyC; rw [HA.out, HB.out]; exact if_neg q)
      go_enter Try.func151, Try.ntmps151
      go_wp2_with (go_at_call 163; first
        | (with_reducible refine (wrap_s (x := a) ha).mono ?_; rw [HA.out]; rintro e w1 ⟨rfl, rfl⟩)
        | (with_reducible refine (wrap_s (x := b) hb).mono ?_; rw [HB.out]; rintro e w1 ⟨rfl, rfl⟩))
      rw [HQ.out]
      go_ret
      exact ⟨rfl, rfl⟩
end Go.Proofs.Ytbhobjepjaeffaa
namespace Go.Proofs.Ytbhobjepjaeffaa
open Go.RowKit
theorem region_tail {P : Program} {id : Nat} {Q : Exit → Act → World → Prop} {a : Act} {w : World} {l : List Oper} (n : Nat) (hm : P.follows .mixedOrders = true) (hB : Region.lexTailB .any l.toArray n = true)
    (h : ∀ w', Gro w w' → wpStill P l.toArray w' (fun a' => wpList P l.toArray Q (l.drop n) a' w') (l.take n) a) : (Code.region id l.toArray true).wp P Q a w :=
  wp_region_still_tail n hm hB (h w.drew ((Gro.refl _).drew))
section
variable {es : List Int} {m : DMachine} {arg : Int}
theorem pmA {code : Int} (h : 5 ≤ code ∧ code ≤ 9) : performM es m code arg = (cPop m).bind fun p => (cPop p.1).bind fun q => cPush q.1 (applyC code q.2 p.2) := by
  unfold performM
  iterate 13 rw [if_neg (by omega)]
theorem pmA_f {o : Option DMachine} {code : Int} (h : 5 ≤ code ∧ code ≤ 9) : (o.bind fun m => performM es m code arg) = o.bind fun m => (cPop m).bind fun p => (cPop p.1).bind fun q => cPush q.1 (applyC code q.2 p.2) := by
  cases o with
  | none => rfl
  | some m => exact pmA h
theorem pm12_f {o : Option DMachine} : (o.bind fun m => performM es m 12 arg) = o.bind fun m => (cPush m m.Pc).bind fun m' => (es[arg.toNat]?).map fun e => { m' with Pc := e } := rfl
theorem pm13_f {o : Option DMachine} : (o.bind fun m => performM es m 13 arg) = o.bind fun m => (cPush m m.Fp).bind fun m' => cZeros arg.toNat { m' with Fp := m'.Sp } := rfl
/-- a push of the machine's own number -/
theorem cPush_opt2 {b : Bool} {m m1 : DMachine} {v : Int} {f : DMachine → Int} (hf : f m = v) {K : DMachine → Option DMachine} (h : opt b m1 = (opt false m).bind fun m => cPush m v) : ((opt false m).bind fun m => (cPush m (f m)).bind K) = (opt b m1).bind K := by
  rw [h]
  show (cPush m (f m)).bind K = (cPush m v).bind K
  rw [hf]
theorem cAt_wrap {m : DMachine} {a n : Int} (h : I64 a) (hn : -32768 ≤ n ∧ n ≤ 32767) : cAt m (wrap64 (a + n)) = cAt m (a + n) := by
  obtain ⟨h1, h2⟩ := h
  by_cases hb : -9223372036854775808 ≤ a + n ∧ a + n ≤ 9223372036854775807
  · rw [wrap64_small hb.1 hb.2]
  · have e1 : btw (wrap64 (a + n)) 0 1199 = false := by
      cases hq : btw (wrap64 (a + n)) 0 1199 with
      | false => rfl
      | true =>
        have := btw_iff.1 hq
        unfold wrap64 at this
        omega
    have e2 : btw (a + n) 0 1199 = false := by
      cases hq : btw (a + n) 0 1199 with
      | false => rfl
      | true =>
        have := btw_iff.1 hq
        omega
    rw [cAt_out e1, cAt_out e2]
theorem cPut_out {m : DMachine} {a v : Int} (h : btw a 0 1199 = false) : cPut m a v = none := by
  unfold cPut
  rw [h]
  rfl
theorem cPut_wrap {m : DMachine} {a n v : Int} (h : I64 a) (hn : -32768 ≤ n ∧ n ≤ 32767) : cPut m (wrap64 (a + n)) v = cPut m (a + n) v := by
  obtain ⟨h1, h2⟩ := h
  by_cases hb : -9223372036854775808 ≤ a + n ∧ a + n ≤ 9223372036854775807
  · rw [wrap64_small hb.1 hb.2]
  · have e1 : btw (wrap64 (a + n)) 0 1199 = false := by
      cases hq : btw (wrap64 (a + n)) 0 1199 with
      | false => rfl
      | true =>
        have := btw_iff.1 hq
        unfold wrap64 at this
        omega
    have e2 : btw (a + n) 0 1199 = false := by
      cases hq : btw (a + n) 0 1199 with
      | false => rfl
      | true =>
        have := btw_iff.1 hq
        omega
    rw [cPut_out e1, cPut_out e2]
theorem applyC_bd (c a b : Int) : I64 (applyC c a b) := by
  unfold applyC
  split
  · exact w32_64 _
  · split
    · exact w32_64 _
    · split
      · exact w32_64 _
      · split
        · split <;> exact ⟨by decide, by decide⟩
        · split
          · split <;> exact ⟨by decide, by decide⟩
          · exact ⟨by decide, by decide⟩
theorem leave_opt {b1 b3 b5 b7 b8 : Bool} {m1 m3 m5 m7 m8 : DMachine} {v1 v3 v5 : Int} (h1 : (opt b1 m1).map (fun m => (m, v1)) = (opt false m).bind cPop) (h3 : (opt b3 m3).map (fun m => (m, v3)) = (opt b1 { m1 with Sp := m1.Fp }).bind cPop)
    (h5 : (opt b5 m5).map (fun m => (m, v5)) = (opt b3 { m3 with Fp := v3 }).bind cPop) (h7 : opt b7 m7 = (opt b5 { m5 with Pc := v5 }).bind fun m => cDrop arg.toNat m) (h8 : opt b8 m8 = (opt b7 m7).bind fun m => cPush m v1) :
    opt b8 m8 = (opt false m).bind fun m => performM es m 14 arg := by
  show _ = (opt false m).bind fun m => (cPop m).bind fun p => (cPop { p.1 with Sp := p.1.Fp }).bind fun q => (cPop { q.1 with Fp := q.2 }).bind fun r => (cDrop arg.toNat { r.1 with Pc := r.2 }).bind fun m' => cPush m' p.2
  rw [cPop_opt (K := fun p => (cPop { p.1 with Sp := p.1.Fp }).bind fun q => (cPop { q.1 with Fp := q.2 }).bind fun r => (cDrop arg.toNat { r.1 with Pc := r.2 }).bind fun m' => cPush m' p.2) h1]
  have e1 : ((opt b1 m1).bind fun m => (cPop { m with Sp := m.Fp }).bind fun q => (cPop { q.1 with Fp := q.2 }).bind fun r => (cDrop arg.toNat { r.1 with Pc := r.2 }).bind fun m' => cPush m' v1) = (opt b1 { m1 with Sp := m1.Fp }).bind fun m => (cPop m).bind fun q => (cPop { q.1 with Fp := q.2 }).bind fun r => (cDrop arg.toNat { r.1 with Pc := r.2 }).bind fun m' => cPush m' v1 := by cases b1 <;> rfl
  refine Eq.trans ?_ e1.symm
  rw [cPop_opt (K := fun q => (cPop { q.1 with Fp := q.2 }).bind fun r => (cDrop arg.toNat { r.1 with Pc := r.2 }).bind fun m' => cPush m' v1) h3]
  have e3 : ((opt b3 m3).bind fun m => (cPop { m with Fp := v3 }).bind fun r => (cDrop arg.toNat { r.1 with Pc := r.2 }).bind fun m' => cPush m' v1) = (opt b3 { m3 with Fp := v3 }).bind fun m => (cPop m).bind fun r => (cDrop arg.toNat { r.1 with Pc := r.2 }).bind fun m' => cPush m' v1 := by cases b3 <;> rfl
  refine Eq.trans ?_ e3.symm
  rw [cPop_opt (K := fun r => (cDrop arg.toNat { r.1 with Pc := r.2 }).bind fun m' => cPush m' v1) h5]
  have e5 : ((opt b5 m5).bind fun m => (cDrop arg.toNat { m with Pc := v5 }).bind fun m' => cPush m' v1) = ((opt b5 { m5 with Pc := v5 }).bind fun m => cDrop arg.toNat m).bind fun m' => cPush m' v1 := by cases b5 <;> rfl
  refine Eq.trans ?_ e5.symm
  rw [← h7]
  exact h8
theorem cPop_is {m m1 : DMachine} {v : Int} (h : cPop m = some (m1, v)) : m1 = { m with Sp := m.Sp + 1 } := by
  unfold cPop at h
  cases hc : cAt m m.Sp with
  | none => rw [hc] at h; cases h
  | some u =>
    rw [hc] at h
    injection h with h
    injection h with h1 h2
    exact h1.symm
theorem wrap64_I (n : Int) : I64 (wrap64 n) := by
  unfold wrap64
  exact ⟨by omega, by omega⟩
theorem zero_opt {b1 : Bool} {m1 : DMachine} (h1 : (opt b1 m1).map (fun m => (m, (0 : Int))) = (opt false m).bind cPop) (hp : -4611686018427387904 ≤ m.Pc ∧ m.Pc ≤ 4611686018427387904) (ha : -32768 ≤ arg ∧ arg ≤ 32767) :
    opt b1 { m1 with Pc := wrap64 (m1.Pc + arg) } = (opt false m).bind fun m => performM es m 11 arg := by
  have h2 : (opt b1 m1).map (fun m => (m, (0 : Int))) = cPop m := h1
  show _ = (cPop m).map fun p => if p.2 = 0 then { p.1 with Pc := p.1.Pc + arg } else p.1
  rw [← h2]
  cases b1 with
  | true => rfl
  | false =>
    have h3 := cPop_is h2.symm
    show some { m1 with Pc := wrap64 (m1.Pc + arg) } = some { m1 with Pc := m1.Pc + arg }
    have h4 : m1.Pc = m.Pc := by rw [h3]
    rw [h4, wrap64_small (by omega) (by omega)]
theorem nz_opt {b1 : Bool} {m1 : DMachine} {v : Int} (h1 : (opt b1 m1).map (fun m => (m, v)) = (opt false m).bind cPop) (hv : ¬ v = 0) :
    opt b1 m1 = (opt false m).bind fun m => performM es m 11 arg := by
  have h2 : (opt b1 m1).map (fun m => (m, v)) = cPop m := h1
  show _ = (cPop m).map fun p => if p.2 = 0 then { p.1 with Pc := p.1.Pc + arg } else p.1
  rw [← h2]
  cases b1 with
  | true => rfl
  | false =>
    show some m1 = some (if v = 0 then _ else m1)
    rw [if_neg hv]
theorem out_opt {b1 : Bool} {m1 : DMachine} {v : Int} (h1 : (opt b1 m1).map (fun m => (m, v)) = (opt false m).bind cPop) :
    opt b1 { m1 with Out := m1.Out ++ [v] } = (opt false m).bind fun m => performM es m 17 arg := by
  have h2 : (opt b1 m1).map (fun m => (m, v)) = cPop m := h1
  show _ = (cPop m).map fun p => { p.1 with Out := p.1.Out ++ [p.2] }
  rw [← h2]
  cases b1 <;> rfl
theorem ret_opt {a : Nat} {b1 b2 b3 b5 b6 : Bool} {m1 m2 m3 m5 m6 : DMachine} {v1 v3 : Int} (h1 : (opt b1 m1).map (fun m => (m, v1)) = (opt false m).bind cPop) (h2 : opt b2 m2 = (opt b1 m1).bind fun m => cDrop ((a : Int) / 16).toNat m)
    (h3 : (opt b3 m3).map (fun m => (m, v3)) = (opt b2 m2).bind cPop) (h5 : opt b5 m5 = (opt b3 { m3 with Pc := v3 }).bind fun m => cDrop ((a : Int) % 16).toNat m) (h6 : opt b6 m6 = (opt b5 m5).bind fun m => cPush m v1) :
    opt b6 m6 = (opt false m).bind fun m => performM es m 16 (a : Int) := by
  show _ = (opt false m).bind fun m => (cPop m).bind fun p => (cDrop (a / 16) p.1).bind fun m1 => (cPop m1).bind fun r => (cDrop (a % 16) { r.1 with Pc := r.2 }).bind fun m' => cPush m' p.2
  rw [cPop_opt (K := fun p => (cDrop (a / 16) p.1).bind fun m1 => (cPop m1).bind fun r => (cDrop (a % 16) { r.1 with Pc := r.2 }).bind fun m' => cPush m' p.2) h1]
  rw [show ((a : Int) / 16).toNat = a / 16 from by omega] at h2
  rw [show ((a : Int) % 16).toNat = a % 16 from by omega] at h5
  have e1 : ((opt b1 m1).bind fun m => (cDrop (a / 16) m).bind fun m1 => (cPop m1).bind fun r => (cDrop (a % 16) { r.1 with Pc := r.2 }).bind fun m' => cPush m' v1) = ((opt b1 m1).bind fun m => cDrop (a / 16) m).bind fun m => (cPop m).bind fun r => (cDrop (a % 16) { r.1 with Pc := r.2 }).bind fun m' => cPush m' v1 := by cases b1 <;> rfl
  refine Eq.trans ?_ e1.symm
  rw [← h2, cPop_opt (K := fun r => (cDrop (a % 16) { r.1 with Pc := r.2 }).bind fun m' => cPush m' v1) h3]
  have e3 : ((opt b3 m3).bind fun m => (cDrop (a % 16) { m with Pc := v3 }).bind fun m' => cPush m' v1) = ((opt b3 { m3 with Pc := v3 }).bind fun m => cDrop (a % 16) m).bind fun m' => cPush m' v1 := by cases b3 <;> rfl
  refine Eq.trans ?_ e3.symm
  rw [← h5]
  exact h6
end
theorem CoreI.app {B : List (Nat × Obj)} {Y W W7 : World} {N gc gm : Nat} {bad : Bool} {m : DMachine} {A : Option Addr} {c : Nat} {S : List Nat} {Ao : Option Addr} {co : Nat} {So : List Nat} {A7 : Option Addr} {c7 : Nat} {S7 : List Nat} {v : Int} (h : CoreI B Y W N gc gm bad m A c S Ao co So)
    (hon : OnlyS So W W7) (hH : Has (intT.sl 3) W7 [.slice A7 (m.Out.length + 1) c7] (m.Out ++ [v]) S7) (hS : ∀ b ∈ S7, b ∈ So ∨ W.heap.size ≤ b) :
    CoreI B Y (W7.setCell ⟨gm, 4, none⟩ (.slice A7 (m.Out.length + 1) c7)) (N + 1) gc gm bad { m with Out := m.Out ++ [v] } A c S A7 c7 S7 := by
  have hcl := (Array.getElem?_eq_some_iff.1 h.cpu.core).1
  have hml := (Array.getElem?_eq_some_iff.1 h.cpu.mach).1
  have hlen : (m.Out ++ [v]).length = m.Out.length + 1 := by simp
  have hon2 : OnlyS [gm] W7 (W7.setCell ⟨gm, 4, none⟩ (.slice A7 (m.Out.length + 1) c7)) := (OnlyS.refl _ _).setCell (p := ⟨gm, 4, none⟩) (by simp) _
  have hm7 : gm ∉ S7 := fun hm => by
    rcases hS gm hm with h1 | h1
    · exact h.cpu.cs.2.2.2 h1
    · omega
  have hc7 : gc ∉ S7 := fun hm => by
    rcases hS gc hm with h1 | h1
    · exact h.cpu.cs.2.1 h1
    · omega
  have hYW := h.gro.size
  have hc7' := (hon.block gc hcl h.cpu.cs.2.1).trans h.cpu.core
  have hm7' := (hon.block gm hml h.cpu.cs.2.2.2).trans h.cpu.mach
  refine ⟨⟨(hon2.block gc (Array.getElem?_eq_some_iff.1 hc7').1 (by simpa using h.cpu.cm)).trans hc7', ?_, ?_, ?_, ?_, h.cpu.cm, ⟨h.cpu.cs.1, hc7, h.cpu.cs.2.2.1, hm7⟩⟩, ⟨h.ok.len, by rw [hlen]; have := h.ok.out; omega, h.ok.pc, h.ok.sp, h.ok.fp, h.ok.st, h.ok.va⟩, ?_, h.lc, h.lm, h.ls, ?_, ?_⟩
  · rw [hlen]
    exact set_at (i := 4) hm7' rfl
  · exact (h.cpu.stack.keep hon (fun x hx => h.cpu.dis x hx)).keep hon2 (fun x hx hm => h.cpu.cs.2.2.1 (by simp at hm; exact hm ▸ hx))
  · rw [hlen]
    exact hH.keep hon2 (fun x hx hm => hm7 (by simp at hm; exact hm ▸ hx))
  · intro x hx hm
    rcases hS x hm with h1 | h1
    · exact h.cpu.dis x hx h1
    · have := h.cpu.stack.lt x hx
      omega
  · exact hon2.gro (hon.gro h.gro h.lo) (fun b hb => by simp at hb; exact hb ▸ h.lm)
  · intro b hb
    rcases hS b hb with h1 | h1
    · exact h.lo b h1
    · omega
  · intro p hp
    obtain ⟨h1, h2, h3, h4, h5⟩ := h.kb p hp
    have h6 := (hon.block p.1 (Array.getElem?_eq_some_iff.1 h1).1 h5).trans h1
    refine ⟨(hon2.block p.1 (Array.getElem?_eq_some_iff.1 h6).1 (by simpa using h3)).trans h6, h2, h3, h4, fun hm => ?_⟩
    rcases hS p.1 hm with h7 | h7
    · exact h5 h7
    · have := (Array.getElem?_eq_some_iff.1 h1).1
      omega
theorem StI.grow {B : List (Nat × Obj)} {Y W : World} {N gc gm : Nat} {bad : Bool} {m : DMachine} (h : StI B Y W N gc gm bad m) : Gro Y W := by
  obtain ⟨A, c, S, Ao, co, So, h⟩ := h
  exact h.gro
end Go.Proofs.Ytbhobjepjaeffaa
namespace Go.Proofs.Ytbhobjepjaeffaa
open Go.RowKit
/-- the core's cells but Sp and bad are as they were -/
def KeepC (gc : Nat) (W W' : World) : Prop := ∀ i v, i ≠ 1 → i ≠ 7 → W.cell? ⟨gc, i, none⟩ = some v → W'.cell? ⟨gc, i, none⟩ = some v
def ActS (f : DMachine → Option DMachine) (B : List (Nat × Obj)) (Y : World) (N gc : Nat) (bad : Bool) (m : DMachine) (r : Ending) (W' : World) : Prop :=
  r = .returned (.tuple #[]) ∧ ∃ b' m', StS B Y W' N gc b' m' ∧ opt b' m' = (opt bad m).bind f
def PopS (B : List (Nat × Obj)) (Y : World) (N gc : Nat) (bad : Bool) (m : DMachine) (r : Ending) (W' : World) : Prop :=
  ∃ v b' m', I64 v ∧ r = .returned (.int .i64 v) ∧ StS B Y W' N gc b' m' ∧ (opt b' m').map (fun m => (m, v)) = (opt bad m).bind cPop
def WordS (B : List (Nat × Obj)) (Y : World) (N gc : Nat) (bad : Bool) (m : DMachine) (a : Int) (r : Ending) (W' : World) : Prop :=
  ∃ v, I64 v ∧ r = .returned (.int .i64 v) ∧ StS B Y W' N gc (bad || !btw a 0 1199) m ∧ (btw a 0 1199 = true → m.Stack[a.toNat]? = some v)
set_option maxRecDepth 100000 in
set_option maxHeartbeats 2000000 in
theorem push_s {B : List (Nat × Obj)} {Y W : World} {N gc : Nat} {bad : Bool} {m : DMachine} {v : Int} (h : StS B Y W N gc bad m) (hv : I64 v) :
    Calls Try.prog 145 #[.pointer (some ⟨gc, 0, none⟩), .int .i64 v] W (ActS (fun m => cPush m v) B Y N gc bad m) := by
  obtain ⟨A, c, Ao, co, z0, z1, z2, z3, z4, z5, z6, z7, zf, zl, hk⟩ := h.cells
  have hno : btw m.Sp 1 1200 = false → (opt true m) = (opt bad m).bind fun m => cPush m v := fun hb => by
    cases bad with
    | true => rfl
    | false =>
      show none = cPush m v
      unfold cPush
      rw [hb]
      rfl
  by_cases h1 : m.Sp < 1
  · have HQ := Lib.hid (hno (by cases hq : btw m.Sp 1 1200 with | false => rfl | true => have := btw_iff.1 hq; omega))
    have HC := Lib.hid (h.num (i := 7) (v := .bool true) (bad' := true) (m' := m) rfl rfl hk (fun _ _ => rfl))
    clear h hno hk
    go_enter Try.func145, Try.ntmps145
    go_wp2_with (fail)
    exact bodyPost_end (v := .tuple #[]) (by simp [results, Try.results145, go_sem]) rfl ⟨rfl, true, m, HC.out, HQ.out⟩
  · by_cases h2 : 1200 < m.Sp
    · have HQ := Lib.hid (hno (by cases hq : btw m.Sp 1 1200 with | false => rfl | true => have := btw_iff.1 hq; omega))
      have HC := Lib.hid (h.num (i := 7) (v := .bool true) (bad' := true) (m' := m) rfl rfl hk (fun _ _ => rfl))
      clear h hno hk
      go_enter Try.func145, Try.ntmps145
      go_wp2_with (fail)
      exact bodyPost_end (v := .tuple #[]) (by simp [results, Try.results145, go_sem]) rfl ⟨rfl, true, m, HC.out, HQ.out⟩
    · obtain ⟨k, hk2⟩ := Int.eq_ofNat_of_zero_le (show 0 ≤ m.Sp - 1 by omega)
      have hsp : m.Sp = ((k + 1 : Nat) : Int) := by omega
      have hk12 : k < 1200 := by omega
      have HQ := Lib.hid (show opt bad { m with Sp := (k : Int), Stack := m.Stack.set k v } = (opt bad m).bind fun m => cPush m v from by
        cases bad with
        | true => rfl
        | false =>
          show _ = cPush m v
          unfold cPush
          rw [if_pos (btw_mk (by omega) (by omega)), hsp, show ((k + 1 : Nat) : Int) - 1 = (k : Int) from by omega]
          rfl)
      have hI : I64 (k : Int) := ⟨by omega, by omega⟩
      have hC2 := h.num (i := 1) (v := .int .i64 (k : Int)) (bad' := bad) (m' := { m with Sp := (k : Int) }) rfl rfl ⟨hk.len, hk.out, hk.pc, hI, hk.fp, hk.st, hk.va⟩ (fun _ _ => rfl)
      have HC2 := Lib.hid hC2
      clear hno h hk hC2 h1 h2 hk2
      have hs1 : ¬ ((k : Int) + 1 < 1) := by omega
      have hs2 : ¬ (1200 < (k : Int) + 1) := by omega
      go_enter Try.func145, Try.ntmps145
      go_upto_region 3 with (fail)
      have hC2 := HC2.out
      clear HC2
      generalize W.setCell ⟨gc, 1, none⟩ (.int .i64 (k : Int)) = w2 at hC2 ⊢
      refine region_tail 12 (by kernel_rfl) (by kernel_rfl) (fun wx hgx => ?_)
      have hX := hC2.gro hgx
      clear z0 z1 z2 z3 z4 z5 z6 z7 zf zl
      obtain ⟨A2, c2, Ao2, co2, z0, z1, z2, z3, z4, z5, z6, z7, zf, zl, hk2⟩ := hX.cells
      obtain ⟨gs, vo, cs, x3, xl, xf, xv, xb, xc, xg1, xput⟩ := hX.word hk12
      have hlen : ((1200 : Nat) : Int) = m.Stack.length := by rw [← hk2.len]
      have hki : (k : Int) < (m.Stack.length : Int) := by rw [← hlen]; omega
      clear z3
      have z3 := x3
      simp only [List.take_succ_cons, List.take_zero, List.drop_succ_cons, List.drop_zero]
      repeat still_step
      refine wpStill_nil ?_
      go_wp2_with (fail)
      exact bodyPost_end (v := .tuple #[]) (by simp [results, Try.results145, go_sem]) rfl ⟨rfl, bad, _, xput v hv, HQ.out⟩
set_option maxRecDepth 100000 in
set_option maxHeartbeats 2000000 in
theorem word_s4 {B : List (Nat × Obj)} {Y W : World} {N gc : Nat} {bad : Bool} {m : DMachine} {a : Int} (h : StS B Y W N gc bad m) :
    Calls Try.prog 129 #[.pointer (some ⟨gc, 0, none⟩), .int .i64 a] W (fun r W' => WordS B Y N gc bad m a r W' ∧ KeepC gc W W') := by
  obtain ⟨A, c, Ao, co, z0, z1, z2, z3, z4, z5, z6, z7, zf, zl, hk⟩ := h.cells
  obtain ⟨q, hq⟩ : ∃ q, btw a 0 1199 = q := ⟨_, rfl⟩
  have HA := Lib.hid hq
  cases q with
  | false =>
    have HC := Lib.hid (h.num (i := 7) (v := .bool true) (bad' := true) (m' := m) rfl rfl hk (fun _ _ => rfl))
    clear h hk hq
    go_enter Try.func129, Try.ntmps129
    go_wp2_with (go_at_call 44; (with_reducible refine (in_s _ _ _ _).mono ?_); rw [HA.out]; rintro e w1 ⟨rfl, rfl⟩)
    go_ret
    refine ⟨⟨0, ⟨by decide, by decide⟩, rfl, ?_, fun hb => ?_⟩, fun i v h1 h7 hv => (World.cell?_setCell_other _ ⟨gc, 7, none⟩ ⟨gc, i, none⟩ _ (fun he => by injection he; omega)).trans hv⟩
    · rw [HA.out]
      have h9 := HC.out
      cases bad <;> exact h9
    · rw [HA.out] at hb
      cases hb
  | true =>
    have hbb := btw_iff.1 hq
    obtain ⟨k, rfl⟩ := Int.eq_ofNat_of_zero_le (show 0 ≤ a by omega)
    have hk12 : k < 1200 := by omega
    obtain ⟨gs, vo, cs, x3, xl, xf, xv, xb, xc, xg1, xput⟩ := h.word hk12
    have hlen : ((1200 : Nat) : Int) = m.Stack.length := by rw [← hk.len]
    have hki : (k : Int) < (m.Stack.length : Int) := by rw [← hlen]; omega
    have HC := Lib.hid h
    have HV := Lib.hid xv
    clear h hk hq z3 xv xput
    go_enter Try.func129, Try.ntmps129
    go_wp2_with (go_at_call 44; (with_reducible refine (in_s _ _ _ _).mono ?_); rw [HA.out]; rintro e w1 ⟨rfl, rfl⟩)
    go_ret
    refine ⟨⟨vo, xb, rfl, ?_, fun _ => HV.out⟩, fun i v _ _ hv => hv⟩
    rw [HA.out]
    have h9 := HC.out
    cases bad <;> exact h9
theorem word_s {B : List (Nat × Obj)} {Y W : World} {N gc : Nat} {bad : Bool} {m : DMachine} {a : Int} (h : StS B Y W N gc bad m) :
    Calls Try.prog 129 #[.pointer (some ⟨gc, 0, none⟩), .int .i64 a] W (WordS B Y N gc bad m a) := (word_s4 h).mono fun _ _ h => h.1
set_option maxRecDepth 100000 in
set_option maxHeartbeats 2000000 in
theorem pop_s4 {B : List (Nat × Obj)} {Y W : World} {N gc : Nat} {bad : Bool} {m : DMachine} (h : StS B Y W N gc bad m) :
    Calls Try.prog 148 #[.pointer (some ⟨gc, 0, none⟩)] W (fun r W' => PopS B Y N gc bad m r W' ∧ KeepC gc W W') := by
  obtain ⟨A, c, Ao, co, z0, z1, z2, z3, z4, z5, z6, z7, zf, zl, hk⟩ := h.cells
  obtain ⟨sp, hsp⟩ : ∃ sp, m.Sp = sp := ⟨_, rfl⟩
  have HSP := Lib.hid hsp
  rw [hsp] at z1
  have HC := Lib.hid h
  have hI := hk.sp
  rw [hsp] at hI
  clear h hk hsp
  go_enter Try.func148, Try.ntmps148
  go_upto_region 2 with (go_at_call 129; (with_reducible refine (word_s4 HC.out).mono ?_); rintro e w1 ⟨⟨v1, hv1, rfl, hC1, hW1⟩, hK1⟩)
  have HK1 := Lib.hid hK1
  have HW1 := Lib.hid hW1
  clear hK1 hW1
  obtain ⟨q, hq⟩ : ∃ q, (bad || !btw sp 0 1199) = q := ⟨_, rfl⟩
  rw [hq] at hC1
  clear z0 z1 z2 z3 z4 z5 z6 z7 zf zl
  obtain ⟨A2, c2, Ao2, co2, z0, z1, z2, z3, z4, z5, z6, z7, zf, zl, hk2⟩ := hC1.cells
  rw [HSP.out] at z1
  cases q with
  | true =>
    have HQ := Lib.hid (pop_none (m := m) (by rw [HSP.out]; exact hq))
    have HC1 := Lib.hid hC1
    clear hC1 hq hk2
    go_wp2_with (fail)
    go_ret
    exact ⟨⟨v1, true, m, hv1, rfl, HC1.out, HQ.out.symm⟩, HK1.out⟩
  | false =>
    obtain ⟨rfl, hb⟩ : bad = false ∧ btw sp 0 1199 = true := by simpa using hq
    have hbb := btw_iff.1 hb
    have HQ := Lib.hid (show (opt false m).bind cPop = some ({ m with Sp := sp + 1 }, v1) from by
      show cPop m = _
      unfold cPop
      rw [cAt_in (v := v1) (by rw [HSP.out]; exact hb) (by rw [HSP.out]; exact HW1.out hb), HSP.out]
      rfl)
    have hI2 : I64 (sp + 1) := ⟨by omega, by omega⟩
    have HC2 := Lib.hid (hC1.num (i := 1) (v := .int .i64 (sp + 1)) (bad' := false) (m' := { m with Sp := sp + 1 }) rfl rfl ⟨hk2.len, hk2.out, hk2.pc, hI2, hk2.fp, hk2.st, hk2.va⟩ (fun _ _ => by rw [HSP.out]; rfl))
    clear hC1 hq hk2 hb
    go_wp2_with (fail)
    go_ret
    exact ⟨⟨v1, false, _, hv1, rfl, HC2.out, HQ.out.symm⟩, fun i v h1 h7 hv => (World.cell?_setCell_other _ ⟨gc, 1, none⟩ ⟨gc, i, none⟩ _ (fun he => by injection he; omega)).trans (HK1.out i v h1 h7 hv)⟩
theorem pop_s {B : List (Nat × Obj)} {Y W : World} {N gc : Nat} {bad : Bool} {m : DMachine} (h : StS B Y W N gc bad m) :
    Calls Try.prog 148 #[.pointer (some ⟨gc, 0, none⟩)] W (PopS B Y N gc bad m) := (pop_s4 h).mono fun _ _ h => h.1
set_option maxRecDepth 100000 in
set_option maxHeartbeats 2000000 in
theorem put_s {B : List (Nat × Obj)} {Y W : World} {N gc : Nat} {bad : Bool} {m : DMachine} {a v : Int} (h : StS B Y W N gc bad m) (hv : I64 v) :
    Calls Try.prog 147 #[.pointer (some ⟨gc, 0, none⟩), .int .i64 a, .int .i64 v] W (ActS (fun m => cPut m a v) B Y N gc bad m) := by
  obtain ⟨A, c, Ao, co, z0, z1, z2, z3, z4, z5, z6, z7, zf, zl, hk⟩ := h.cells
  obtain ⟨q, hq⟩ : ∃ q, btw a 0 1199 = q := ⟨_, rfl⟩
  have HA := Lib.hid hq
  cases q with
  | false =>
    have HC := Lib.hid (h.num (i := 7) (v := .bool true) (bad' := true) (m' := m) rfl rfl hk (fun _ _ => rfl))
    have HQ := Lib.hid (show opt true m = (opt bad m).bind fun m => cPut m a v from by
      cases bad with
      | true => rfl
      | false => exact (cPut_out hq).symm)
    clear h hk hq
    go_enter Try.func147, Try.ntmps147
    go_wp2_with (go_at_call 44; (with_reducible refine (in_s _ _ _ _).mono ?_); rw [HA.out]; rintro e w1 ⟨rfl, rfl⟩)
    exact bodyPost_end (v := .tuple #[]) (by simp [results, Try.results147, go_sem]) rfl ⟨rfl, true, m, HC.out, HQ.out⟩
  | true =>
    have hbb := btw_iff.1 hq
    obtain ⟨k, rfl⟩ := Int.eq_ofNat_of_zero_le (show 0 ≤ a by omega)
    have hk12 : k < 1200 := by omega
    obtain ⟨gs, vo, cs, x3, xl, xf, xv, xb, xc, xg1, xput⟩ := h.word hk12
    have hlen : ((1200 : Nat) : Int) = m.Stack.length := by rw [← hk.len]
    have hki : (k : Int) < (m.Stack.length : Int) := by rw [← hlen]; omega
    have HP := Lib.hid (xput v hv)
    have HQ := Lib.hid (show opt bad { m with Stack := m.Stack.set k v } = (opt bad m).bind fun m => cPut m (k : Int) v from by
      cases bad with
      | true => rfl
      | false =>
        show _ = cPut m (k : Int) v
        unfold cPut
        rw [if_pos hq]
        rfl)
    clear h hk hq z3 xv xput
    go_enter Try.func147, Try.ntmps147
    go_wp2_with (go_at_call 44; (with_reducible refine (in_s _ _ _ _).mono ?_); rw [HA.out]; rintro e w1 ⟨rfl, rfl⟩)
    exact bodyPost_end (v := .tuple #[]) (by simp [results, Try.results147, go_sem]) rfl ⟨rfl, bad, _, HP.out, HQ.out⟩
set_option maxRecDepth 100000 in
set_option maxHeartbeats 2000000 in
theorem drop_s {B : List (Nat × Obj)} {Y W : World} {N gc : Nat} {bad : Bool} {m : DMachine} {n : Int} (h : StS B Y W N gc bad m) (hn0 : 0 ≤ n) (hn : n ≤ 9223372036854775807) :
    Calls Try.prog 150 #[.pointer (some ⟨gc, 0, none⟩), .int .i64 n] W (ActS (fun m => cDrop n.toNat m) B Y N gc bad m) := by
  go_enter Try.func150, Try.ntmps150
  go_wp2
  go_loopw [4] (fun a wr => ∃ (k : Int) (b1 : Bool) (m1 : DMachine), a = .int .i64 k ∧ 0 ≤ k ∧ k ≤ n ∧ Hid (StS B Y wr N gc b1 m1) ∧ Hid ((opt bad m).bind (fun m => cDrop n.toNat m) = (opt b1 m1).bind fun m => cDrop (n - k).toNat m)) (fun a _ => (n - intOf a).toNat)
  case atStart => exact ⟨0, bad, m, rfl, by omega, hn0, Lib.hid h, Lib.hid (by rw [Int.sub_zero])⟩
  case round =>
    obtain ⟨k, b1, m1, rfl, hk1, hk2, hS, hO⟩ := hrel
    by_cases hlt : k < n
    · go_wp2_with (go_at_call 148; (with_reducible refine (pop_s hS.out).mono ?_); rintro e w1 ⟨v, b2, m2, hv, rfl, hC2, ho2⟩)
      go_roundw
      case measure => (simp [intOf]; try omega)
      case rel =>
        refine ⟨k + 1, b2, m2, by simp, by omega, by omega, Lib.hid hC2, Lib.hid (hO.out.trans ?_)⟩
        have h3 : (n - k).toNat = (n - (k + 1)).toNat + 1 := by omega
        rw [h3]
        exact cPop_opt (K := fun p => cDrop (n - (k + 1)).toNat p.1) ho2
    · go_wp2_with (fail)
      refine bodyPost_end (v := .tuple #[]) (by simp [results, Try.results150, go_sem]) rfl ⟨rfl, b1, m1, hS.out, ?_⟩
      rw [hO.out, show (n - k).toNat = 0 from by omega]
      cases b1 <;> rfl
set_option maxRecDepth 100000 in
set_option maxHeartbeats 2000000 in
theorem zeros_s {B : List (Nat × Obj)} {Y W : World} {N gc : Nat} {bad : Bool} {m : DMachine} {n : Int} (h : StS B Y W N gc bad m) (hn0 : 0 ≤ n) (hn : n ≤ 9223372036854775807) :
    Calls Try.prog 149 #[.pointer (some ⟨gc, 0, none⟩), .int .i64 n] W (ActS (fun m => cZeros n.toNat m) B Y N gc bad m) := by
  have hz : I64 0 := ⟨by decide, by decide⟩
  go_enter Try.func149, Try.ntmps149
  go_wp2
  go_loopw [4] (fun a wr => ∃ (k : Int) (b1 : Bool) (m1 : DMachine), a = .int .i64 k ∧ 0 ≤ k ∧ k ≤ n ∧ Hid (StS B Y wr N gc b1 m1) ∧ Hid ((opt bad m).bind (fun m => cZeros n.toNat m) = (opt b1 m1).bind fun m => cZeros (n - k).toNat m)) (fun a _ => (n - intOf a).toNat)
  case atStart => exact ⟨0, bad, m, rfl, by omega, hn0, Lib.hid h, Lib.hid (by rw [Int.sub_zero])⟩
  case round =>
    obtain ⟨k, b1, m1, rfl, hk1, hk2, hS, hO⟩ := hrel
    by_cases hlt : k < n
    · go_wp2_with (go_at_call 145; (with_reducible refine (push_s (v := 0) hS.out hz).mono ?_); rintro e w1 ⟨rfl, b2, m2, hC2, ho2⟩)
      go_roundw
      case measure => (simp [intOf]; try omega)
      case rel =>
        refine ⟨k + 1, b2, m2, by simp, by omega, by omega, Lib.hid hC2, Lib.hid (hO.out.trans ?_)⟩
        have h3 : (n - k).toNat = (n - (k + 1)).toNat + 1 := by omega
        rw [h3]
        exact cPush_opt (K := fun m => cZeros (n - (k + 1)).toNat m) ho2
    · go_wp2_with (fail)
      refine bodyPost_end (v := .tuple #[]) (by simp [results, Try.results149, go_sem]) rfl ⟨rfl, b1, m1, hS.out, ?_⟩
      rw [hO.out, show (n - k).toNat = 0 from by omega]
      cases b1 <;> rfl
/-- an address near the stack -/
def nearV (a n : Int) : Int := if btw a (-100000) 100000 = true then a + n else -1
theorem near_s (a n : Int) (w : World) (hn : -32768 ≤ n ∧ n ≤ 32767) : Calls Try.prog 146 #[.int .i64 a, .int .i64 n] w fun r w' => r = .returned (.int .i64 (nearV a n)) ∧ w = w' := by
  obtain ⟨q, hq⟩ : ∃ q, btw a (-100000) 100000 = q := ⟨_, rfl⟩
  have HA := Lib.hid hq
  cases q with
  | false =>
    have HN := Lib.hid (show nearV a n = -1 from by unfold nearV; rw [hq]; rfl)
    clear hq
    go_enter Try.func146, Try.ntmps146
    go_wp2_with (go_at_call 44; (with_reducible refine (in_s _ _ _ _).mono ?_); rw [HA.out]; rintro e w1 ⟨rfl, rfl⟩)
    rw [HN.out]
    go_ret
    exact ⟨rfl, rfl⟩
  | true =>
    have hb := btw_iff.1 hq
    have HN := Lib.hid (show nearV a n = a + n from by unfold nearV; rw [hq]; rfl)
    clear hq
    go_enter Try.func146, Try.ntmps146
    go_wp2_with (go_at_call 44; (with_reducible refine (in_s _ _ _ _).mono ?_); rw [HA.out]; rintro e w1 ⟨rfl, rfl⟩)
    rw [HN.out]
    go_ret
    exact ⟨rfl, rfl⟩
theorem near_btw {a n : Int} (hn : -32768 ≤ n ∧ n ≤ 32767) : btw (nearV a n) 0 1199 = btw (a + n) 0 1199 ∧ (btw (a + n) 0 1199 = true → nearV a n = a + n) := by
  unfold nearV
  by_cases hq : btw a (-100000) 100000 = true
  · rw [if_pos hq]
    exact ⟨rfl, fun _ => rfl⟩
  · rw [if_neg hq]
    have h2 : btw (a + n) 0 1199 = false := by
      cases hb : btw (a + n) 0 1199 with
      | false => rfl
      | true =>
        have := btw_iff.1 hb
        exact absurd (btw_mk (by omega) (by omega)) hq
    rw [h2]
    exact ⟨rfl, fun h => by cases h⟩
theorem cPut_near {m : DMachine} {a n v : Int} (hn : -32768 ≤ n ∧ n ≤ 32767) : cPut m (nearV a n) v = cPut m (a + n) v := by
  obtain ⟨h1, h2⟩ := near_btw (a := a) hn
  cases hb : btw (a + n) 0 1199 with
  | true => rw [h2 hb]
  | false => rw [cPut_out hb, cPut_out (by rw [h1, hb])]
theorem cAt_near {m : DMachine} {a n : Int} (hn : -32768 ≤ n ∧ n ≤ 32767) : cAt m (nearV a n) = cAt m (a + n) := by
  obtain ⟨h1, h2⟩ := near_btw (a := a) hn
  cases hb : btw (a + n) 0 1199 with
  | true => rw [h2 hb]
  | false => rw [cAt_out hb, cAt_out (by rw [h1, hb])]
theorem word_opt {bad b2 : Bool} {m m2 : DMachine} {a v : Int} (hW : btw a 0 1199 = true → m.Stack[a.toNat]? = some v) (ho : opt b2 m2 = (opt (bad || !btw a 0 1199) m).bind fun m => cPush m v) : opt b2 m2 = (opt bad m).bind fun m => (cAt m a).bind fun v => cPush m v := by
  rw [ho]
  cases bad with
  | true => rfl
  | false =>
    cases hb : btw a 0 1199 with
    | true =>
      show cPush m v = (cAt m a).bind _
      rw [cAt_in hb (hW hb)]
      rfl
    | false =>
      show none = (cAt m a).bind _
      rw [cAt_out hb]
      rfl
theorem leave_bad {es : List Int} {arg : Int} {b1 : Bool} {m m1 : DMachine} {v1 : Int} (h1 : (opt b1 m1).map (fun m => (m, v1)) = (opt false m).bind cPop) (hf : btw m1.Fp 0 1200 = false) : none = (opt false m).bind fun m => performM es m 14 arg := by
  show _ = (opt false m).bind fun m => (cPop m).bind fun p => (cPop { p.1 with Sp := p.1.Fp }).bind fun q => (cPop { q.1 with Fp := q.2 }).bind fun r => (cDrop arg.toNat { r.1 with Pc := r.2 }).bind fun m' => cPush m' p.2
  rw [cPop_opt (K := fun p => (cPop { p.1 with Sp := p.1.Fp }).bind fun q => (cPop { q.1 with Fp := q.2 }).bind fun r => (cDrop arg.toNat { r.1 with Pc := r.2 }).bind fun m' => cPush m' p.2) h1]
  cases b1 with
  | true => rfl
  | false =>
    show none = (cPop { m1 with Sp := m1.Fp }).bind _
    have h2 : btw m1.Fp 0 1199 = false := by
      cases hq : btw m1.Fp 0 1199 with
      | false => rfl
      | true =>
        have := btw_iff.1 hq
        rw [btw_mk (by omega) (by omega)] at hf
        cases hf
    unfold cPop
    rw [cAt_out h2]
    rfl
theorem CoreS.app {B : List (Nat × Obj)} {Y W W7 : World} {N gc : Nat} {bad : Bool} {m : DMachine} {A : Option Addr} {c : Nat} {S : List Nat} {Ao : Option Addr} {co : Nat} {So : List Nat} {A7 : Option Addr} {c7 : Nat} {S7 : List Nat} {v : Int} (h : CoreS B Y W N gc bad m A c S Ao co So)
    (hon : OnlyS So W W7) (hH : Has (intT.sl 3) W7 [.slice A7 (m.Out.length + 1) c7] (m.Out ++ [v]) S7) (hS : ∀ b ∈ S7, b ∈ So ∨ W.heap.size ≤ b) :
    CoreS B Y (W7.setCell ⟨gc, 4, none⟩ (.slice A7 (m.Out.length + 1) c7)) (N + 1) gc bad { m with Out := m.Out ++ [v] } A c S A7 c7 S7 := by
  have hcl := (Array.getElem?_eq_some_iff.1 h.core).1
  have hlen : (m.Out ++ [v]).length = m.Out.length + 1 := by simp
  have hon2 : OnlyS [gc] W7 (W7.setCell ⟨gc, 4, none⟩ (.slice A7 (m.Out.length + 1) c7)) := (OnlyS.refl _ _).setCell (p := ⟨gc, 4, none⟩) (by simp) _
  have hc7 : gc ∉ S7 := fun hm => by
    rcases hS gc hm with h1 | h1
    · exact h.cs.2 h1
    · omega
  have hYW := h.gro.size
  have hc7' := (hon.block gc hcl h.cs.2).trans h.core
  refine ⟨?_, ?_, ?_, ?_, ⟨h.cs.1, hc7⟩, ⟨h.ok.len, by rw [hlen]; have := h.ok.out; omega, h.ok.pc, h.ok.sp, h.ok.fp, h.ok.st, h.ok.va⟩, ?_, h.lc, h.ls, ?_, ?_⟩
  · rw [hlen]
    exact set_at (i := 4) hc7' rfl
  · exact (h.stack.keep hon (fun x hx => h.dis x hx)).keep hon2 (fun x hx hm => h.cs.1 (by simp at hm; exact hm ▸ hx))
  · rw [hlen]
    exact hH.keep hon2 (fun x hx hm => hc7 (by simp at hm; exact hm ▸ hx))
  · intro x hx hm
    rcases hS x hm with h1 | h1
    · exact h.dis x hx h1
    · have := h.stack.lt x hx
      omega
  · exact hon2.gro (hon.gro h.gro h.lo) (fun b hb => by simp at hb; exact hb ▸ h.lc)
  · intro b hb
    rcases hS b hb with h1 | h1
    · exact h.lo b h1
    · omega
  · intro p hp
    obtain ⟨h1, h2, h4, h5⟩ := h.kb p hp
    have h6 := (hon.block p.1 (Array.getElem?_eq_some_iff.1 h1).1 h5).trans h1
    refine ⟨(hon2.block p.1 (Array.getElem?_eq_some_iff.1 h6).1 (by simpa using h2)).trans h6, h2, h4, fun hm => ?_⟩
    rcases hS p.1 hm with h7 | h7
    · exact h5 h7
    · have := (Array.getElem?_eq_some_iff.1 h1).1
      omega
theorem StS.grow {B : List (Nat × Obj)} {Y W : World} {N gc : Nat} {bad : Bool} {m : DMachine} (h : StS B Y W N gc bad m) : Gro Y W := by
  obtain ⟨A, c, S, Ao, co, So, h⟩ := h
  exact h.gro
theorem StS.up {B : List (Nat × Obj)} {Y W : World} {N gc : Nat} {bad : Bool} {m : DMachine} (h : StS B Y W N gc bad m) : StS B Y W (N + 1) gc bad m := by
  obtain ⟨A, c, S, Ao, co, So, h⟩ := h
  exact ⟨A, c, S, Ao, co, So, h.core, h.stack, h.out, h.dis, h.cs, ⟨h.ok.len, by have := h.ok.out; omega, h.ok.pc, h.ok.sp, h.ok.fp, h.ok.st, h.ok.va⟩, h.gro, h.lc, h.ls, h.lo, h.kb⟩
theorem ActS.up {f : DMachine → Option DMachine} {B : List (Nat × Obj)} {Y : World} {N gc : Nat} {bad : Bool} {m : DMachine} {r : Ending} {W' : World} (h : ActS f B Y N gc bad m r W') : ActS f B Y (N + 1) gc bad m r W' := by
  obtain ⟨h1, b, m', h2, h3⟩ := h
  exact ⟨h1, b, m', h2.up, h3⟩
end Go.Proofs.Ytbhobjepjaeffaa
namespace Go.Proofs.Ytbhobjepjaeffaa
open Go.RowKit
def OwnB (lo : Nat) (W : World) (A : Option Addr) (c : Nat) (xs : List UInt8) : Prop := ∃ g, A = some ⟨g, 0, none⟩ ∧ lo ≤ g ∧ g < W.heap.size ∧ xs.length ≤ c ∧
  (∀ j, j < c → (W.cell? ⟨g, j, none⟩).isSome = true) ∧ (∀ j, j < c → W.frozen? ⟨g, j, none⟩ = false) ∧ ∀ (j : Nat) b, xs[j]? = some b → W.cell? ⟨g, j, none⟩ = some (.int .u8 (b.toNat : Int))
theorem OwnB.gro {lo : Nat} {W W' : World} {A : Option Addr} {c : Nat} {xs : List UInt8} (h : OwnB lo W A c xs) (hg : Gro W W') : OwnB lo W' A c xs := by
  obtain ⟨g, rfl, h1, h2, h3, h4, h5, h6⟩ := h
  have hc : ∀ j, W'.cell? ⟨g, j, none⟩ = W.cell? ⟨g, j, none⟩ := fun j => World.cell?_of_block (hg.block h2)
  have hf : ∀ j, W'.frozen? ⟨g, j, none⟩ = W.frozen? ⟨g, j, none⟩ := fun j => World.frozen?_of_block (hg.block h2)
  exact ⟨g, rfl, h1, Nat.lt_of_lt_of_le h2 hg.size, h3, fun j hj => by rw [hc]; exact h4 j hj, fun j hj => by rw [hf]; exact h5 j hj, fun j b hb => by rw [hc]; exact h6 j b hb⟩
theorem OwnB.read {lo : Nat} {W : World} {A : Option Addr} {c : Nat} {xs : List UInt8} {e : TypeId} (h : OwnB lo W A c xs) (hc : c ≤ 9223372036854775807) : (byteT.sl e).R W W.heap.size [.slice A xs.length c] xs := by
  obtain ⟨g, rfl, h1, h2, h3, h4, h5, h6⟩ := h
  refine ⟨_, c, rfl, h3, hc, (fun h => by cases h), fun _ => ⟨g, 0, rfl, h2, fun i x hx => ⟨_, rfl, fun j u hu => ?_⟩⟩⟩
  cases j with
  | zero =>
    simp at hu
    subst hu
    have := h6 i x hx
    rw [show 0 + i * byteT.size + 0 = i from by show 0 + i * 1 + 0 = i; omega]
    exact this
  | succ j => simp at hu
section
variable {ops : Array Oper} {rest : List Oper} {o : Oper} {a : Act} {Q : Exit → Act → World → Prop} {K : Act → World → Prop}
end
end Go.Proofs.Ytbhobjepjaeffaa
namespace Go.Proofs.Ytbhobjepjaeffaa
open Go.RowKit
theorem elInt : Elem Try.prog 23 3 intT 8 := by
  obtain ⟨i0, hi, hz0, hz1, hz2⟩ := info_parts toIntS_info
  exact ⟨Try.underlying23, ⟨i0, _, hi, hz0, hz1, hz2, rfl⟩, by decide⟩
end Go.Proofs.Ytbhobjepjaeffaa
namespace Go.Proofs.Ytbhobjepjaeffaa
open Go.RowKit
def signed (n : Nat) : Int := if btw (n : Int) 0 1099511627775 then (if n % 2 = 1 then -((n : Int) + 1) / 2 else (n : Int) / 2) else 0
theorem OwnB.since {lo lo' : Nat} {W : World} {A : Option Addr} {c : Nat} {xs : List UInt8} (h : OwnB lo W A c xs) (hl : lo' ≤ lo) : OwnB lo' W A c xs := by
  obtain ⟨g, h0, h1, h2⟩ := h
  exact ⟨g, h0, Nat.le_trans hl h1, h2⟩
end Go.Proofs.Ytbhobjepjaeffaa
namespace Go.Proofs.Ytbhobjepjaeffaa
open Go.RowKit
set_option maxRecDepth 100000 in
set_option maxHeartbeats 4000000 in
theorem copyMachine_i {x : DMachine} {w : World} {A0 A1 : Option Addr} {c0 c1 : Nat} (p0 : I64 x.Pc) (p1 : I64 x.Sp) (p2 : I64 x.Fp) (h3 : (intT.sl 3).R w w.heap.size [.slice A0 x.Stack.length c0] x.Stack) (h4 : (intT.sl 3).R w w.heap.size [.slice A1 x.Out.length c1] x.Out) (p5 : I64 x.State) (p6 : I64 x.Value) (hs : szMachine x ≤ 1099511627776) :
    Calls Try.prog 108 #[.agg #[.int .i64 x.Pc, .int .i64 x.Sp, .int .i64 x.Fp, .slice A0 x.Stack.length c0, .slice A1 x.Out.length c1, .int .i64 x.State, .int .i64 x.Value]] w (RetMachine x w) := by
  unfold szMachine at hs
  go_enter Try.func108, Try.ntmps108
  go_wp2_with (first
    | (at_builtin; refine wpList_append_flat rfl (.tmp 3) (.tmp 5) elInt flat_int (fresh_empty (Gro.refl _) (by simp)) ((Gro.refl _).alloc _) (Ty.up _ h3 (by repeat (first | with_reducible exact Gro.refl _ | with_reducible exact Gro.refl_drew _ _ _ | with_reducible exact Gro.refl_drewN _ _ _ _ | assumption | with_reducible apply Gro.more | with_reducible apply Gro.alloc | with_reducible apply Gro.drew | with_reducible apply Gro.drewN))) rfl rfl rfl (Nat.zero_add _).symm (by omega) (by omega) ?_; intro B0 d0 os d hF)
    | (at_builtin; refine wpList_append_flat rfl (.tmp 8) (.tmp 10) elInt flat_int (fresh_empty (Gro.refl _) (by simp)) ((Gro.refl _).alloc _) (Ty.up _ h4 (by repeat (first | with_reducible exact Gro.refl _ | with_reducible exact Gro.refl_drew _ _ _ | with_reducible exact Gro.refl_drewN _ _ _ _ | assumption | with_reducible apply Gro.more | with_reducible apply Gro.alloc | with_reducible apply Gro.drew | with_reducible apply Gro.drewN))) rfl rfl rfl (Nat.zero_add _).symm (by omega) (by omega) ?_; intro B1 d1 os1 d2 hF2))
  refine bodyPost_ret (v := .agg #[.int .i64 x.Pc, .int .i64 x.Sp, .int .i64 x.Fp, .slice B0 x.Stack.length d0, .slice B1 x.Out.length d1, .int .i64 x.State, .int .i64 x.Value]) (by simp [results, Try.results108, go_sem]) rfl ⟨B0, d0, B1, d1, rfl, ?_, (by repeat (first | with_reducible exact Gro.refl _ | with_reducible exact Gro.refl_drew _ _ _ | with_reducible exact Gro.refl_drewN _ _ _ _ | assumption | with_reducible apply Gro.more | with_reducible apply Gro.alloc | with_reducible apply Gro.drew | with_reducible apply Gro.drewN))⟩
  exact tMachine_fresh p0 p1 p2 (hF.fre.same (by repeat (first | with_reducible exact Same.refl _ _ _ | ((with_reducible refine Same.base ?_ ?_) <;> (simp <;> omega)) | ((with_reducible refine Same.more ?_ ?_ _ _); rotate_left; simp <;> omega) | ((with_reducible refine Same.alloc ?_ ?_ _); rotate_left; simp <;> omega) | with_reducible apply Same.drew | with_reducible apply Same.drewN))) (hF2.fre.same (by repeat (first | with_reducible exact Same.refl _ _ _ | ((with_reducible refine Same.base ?_ ?_) <;> (simp <;> omega)) | ((with_reducible refine Same.more ?_ ?_ _ _); rotate_left; simp <;> omega) | ((with_reducible refine Same.alloc ?_ ?_ _); rotate_left; simp <;> omega) | with_reducible apply Same.drew | with_reducible apply Same.drewN))) p5 p6 (by simp <;> omega) (by simp <;> omega) (by simp <;> omega)
set_option maxRecDepth 100000 in
set_option maxHeartbeats 4000000 in
theorem copyMachine_s {x : DMachine} {w : World} {A0 A1 : Option Addr} {c0 c1 : Nat} (p0 : I64 x.Pc) (p1 : I64 x.Sp) (p2 : I64 x.Fp) (h3 : (intT.sl 3).R w w.heap.size [.slice A0 x.Stack.length c0] x.Stack) (h4 : (intT.sl 3).R w w.heap.size [.slice A1 x.Out.length c1] x.Out) (p5 : I64 x.State) (p6 : I64 x.Value) (hs : szMachine x ≤ 1099511627776) :
    Calls Try.prog 106 #[.agg #[.int .i64 x.Pc, .int .i64 x.Sp, .int .i64 x.Fp, .slice A0 x.Stack.length c0, .slice A1 x.Out.length c1, .int .i64 x.State, .int .i64 x.Value]] w (RetMachine x w) := by
  unfold szMachine at hs
  go_enter Try.func106, Try.ntmps106
  go_wp2_with (first
    | (at_builtin; refine wpList_append_flat rfl (.tmp 3) (.tmp 5) elInt flat_int (fresh_empty (Gro.refl _) (by simp)) ((Gro.refl _).alloc _) (Ty.up _ h3 (by repeat (first | with_reducible exact Gro.refl _ | with_reducible exact Gro.refl_drew _ _ _ | with_reducible exact Gro.refl_drewN _ _ _ _ | assumption | with_reducible apply Gro.more | with_reducible apply Gro.alloc | with_reducible apply Gro.drew | with_reducible apply Gro.drewN))) rfl rfl rfl (Nat.zero_add _).symm (by omega) (by omega) ?_; intro B0 d0 os d hF)
    | (at_builtin; refine wpList_append_flat rfl (.tmp 8) (.tmp 10) elInt flat_int (fresh_empty (Gro.refl _) (by simp)) ((Gro.refl _).alloc _) (Ty.up _ h4 (by repeat (first | with_reducible exact Gro.refl _ | with_reducible exact Gro.refl_drew _ _ _ | with_reducible exact Gro.refl_drewN _ _ _ _ | assumption | with_reducible apply Gro.more | with_reducible apply Gro.alloc | with_reducible apply Gro.drew | with_reducible apply Gro.drewN))) rfl rfl rfl (Nat.zero_add _).symm (by omega) (by omega) ?_; intro B1 d1 os1 d2 hF2))
  refine bodyPost_ret (v := .agg #[.int .i64 x.Pc, .int .i64 x.Sp, .int .i64 x.Fp, .slice B0 x.Stack.length d0, .slice B1 x.Out.length d1, .int .i64 x.State, .int .i64 x.Value]) (by simp [results, Try.results106, go_sem]) rfl ⟨B0, d0, B1, d1, rfl, ?_, (by repeat (first | with_reducible exact Gro.refl _ | with_reducible exact Gro.refl_drew _ _ _ | with_reducible exact Gro.refl_drewN _ _ _ _ | assumption | with_reducible apply Gro.more | with_reducible apply Gro.alloc | with_reducible apply Gro.drew | with_reducible apply Gro.drewN))⟩
  exact tMachine_fresh p0 p1 p2 (hF.fre.same (by repeat (first | with_reducible exact Same.refl _ _ _ | ((with_reducible refine Same.base ?_ ?_) <;> (simp <;> omega)) | ((with_reducible refine Same.more ?_ ?_ _ _); rotate_left; simp <;> omega) | ((with_reducible refine Same.alloc ?_ ?_ _); rotate_left; simp <;> omega) | with_reducible apply Same.drew | with_reducible apply Same.drewN))) (hF2.fre.same (by repeat (first | with_reducible exact Same.refl _ _ _ | ((with_reducible refine Same.base ?_ ?_) <;> (simp <;> omega)) | ((with_reducible refine Same.more ?_ ?_ _ _); rotate_left; simp <;> omega) | ((with_reducible refine Same.alloc ?_ ?_ _); rotate_left; simp <;> omega) | with_reducible apply Same.drew | with_reducible apply Same.drewN))) p5 p6 (by simp <;> omega) (by simp <;> omega) (by simp <;> omega)
end Go.Proofs.Ytbhobjepjaeffaa
