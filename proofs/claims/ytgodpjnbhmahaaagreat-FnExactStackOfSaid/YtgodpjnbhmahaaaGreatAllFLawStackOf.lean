/-
  PART 6 of the texts of this claim, one behind the other: contracts and laws that the last part uses.
-/
import Derived.Test.YtgodpjnbhmahaaaGreatAllELawStackOf
import Derived.Deep.AppendSrc
import Derived.Deep.MidRow
import Derived.Laws.IdiomStrings
import Derived.Deep.LoopGhost
set_option linter.unusedVariables false
set_option linter.unusedSimpArgs false
namespace Go.Proofs.YtgodpjnbhmahaaaGreat
open Go.RowKit
theorem grow_cellR {a b : World} (h : Gro a b) {p : Addr} {v : Value} (hp : a.cell? p = some v) : b.cell? p = some v := by
  obtain ⟨os, d, rfl⟩ := h
  exact gro_keeps hp os d
/-- the offset of the row ahead of place k; -1 ahead of all -/
def prevR (rs : List DRow) (k : Nat) : Int := match k with
  | 0 => -1
  | j + 1 => (rs[j]?.map DRow.Offset).getD 0
theorem row1_iff {p : Int} {r : DRow} : row1 p r = true ↔ btw r.Offset 0 1000000 = true ∧ btw r.Line 0 59 = true ∧ p < r.Offset := by
  unfold row1
  simp only [Bool.and_eq_true, decide_eq_true_eq]
  exact and_assoc
theorem row1_no {p : Int} {r : DRow} (h : ¬ (btw r.Offset 0 1000000 = true ∧ btw r.Line 0 59 = true ∧ p < r.Offset)) : row1 p r = false := by
  cases hq : row1 p r with
  | false => rfl
  | true => exact absurd (row1_iff.1 hq) h
def isStart (rs : List DRow) (off : Int) : Bool := if 0 ≤ findRow rs off then (match rs[(findRow rs off).toNat]? with
  | some r => decide (r.Offset = off) && r.Start
  | none => false) else false
theorem rowAt_res : ∀ (rs : List DRow) (off : Int) (k : Nat) (f : Int), rowAt rs off k f = f ∨ ∃ (j : Nat) (r : DRow), rs[j]? = some r ∧ rowAt rs off k f = ((k + j : Nat) : Int)
  | [], off, k, f => .inl rfl
  | r :: rs, off, k, f => by
    unfold rowAt
    rcases rowAt_res rs off (k + 1) (if r.Offset ≤ off then (k : Int) else f) with h | ⟨j, x, h1, h2⟩
    · rw [h]
      split
      · exact .inr ⟨0, r, rfl, rfl⟩
      · exact .inl rfl
    · exact .inr ⟨j + 1, x, by simpa using h1, by rw [h2]; omega⟩
theorem findRow_res (rs : List DRow) (off : Int) : findRow rs off = -1 ∨ ∃ (j : Nat) (r : DRow), rs[j]? = some r ∧ findRow rs off = (j : Int) := by
  unfold findRow
  split
  · rcases rowAt_res rs off 0 (-1) with h | ⟨j, r, h1, h2⟩
    · exact .inl h
    · exact .inr ⟨j, r, h1, by rw [h2, Nat.zero_add]⟩
  · exact .inl rfl
set_option maxRecDepth 100000 in
set_option maxHeartbeats 4000000 in
theorem rowsOk_i {rs : List DRow} {w : World} {A : Option Addr} {c : Nat} (hx : (tRow.sl 256).R w w.heap.size [.slice A rs.length c] rs) :
    Calls Tryz.prog 232 #[.slice A rs.length c] w fun e w' => e = .returned (.bool (rowsG (-1) rs)) ∧ Gro w w' := by
  obtain ⟨_, _, hx', h1, h2⟩ := sl_at hx
  injection hx' with e1 e2 e3
  subst e1 e3
  clear e2
  go_enter Tryz.func232, Tryz.ntmps232
  go_wp2
  go_loopw [7] (fun a wr => ∃ k : Nat, a = .int .i64 k ∧ k ≤ rs.length ∧ Hid (Gro w wr) ∧ Hid (rowsG (prevR rs k) (rs.drop k) = rowsG (-1) rs)) (fun a _ => rs.length - (intOf a).toNat)
  case atStart => exact ⟨0, rfl, Nat.zero_le _, Lib.hid (Gro.refl _), Lib.hid rfl⟩
  case round =>
    obtain ⟨k, rfl, hk, hG, hE⟩ := hrel
    obtain ⟨os, d, rfl⟩ := hG.out
    clear hG
    by_cases hlt : k < rs.length
    · obtain ⟨g, off, r, hA, hgb, hxk, x0, x1, x2, bo, bl⟩ := atRow hx hlt
      have HX := Lib.hid hxk
      have x0 := gro_keeps x0 os d
      have x1 := gro_keeps x1 os d
      have x2 := gro_keeps x2 os d
      have hki : (k : Int) < (rs.length : Int) := by omega
      clear hxk
      subst hA
      obtain ⟨b1, hb1⟩ : ∃ b, btw r.Offset 0 1000000 = b := ⟨_, rfl⟩
      cases b1 with
      | false =>
        have HR := Lib.hid (row1_no (p := prevR rs k) (r := r) (by rw [hb1]; simp))
        clear hx
        go_wp2_with (fail)
        go_quiet ((first | (go_at_call 73; with_reducible exact in_iv hb1 _ _)))
        go_wp2_with (fail)
        go_ret
        exact ⟨ret_bool (by rw [← hE.out, rowsG_at HX.out, HR.out]; rfl), gG⟩
      | true =>
        obtain ⟨b2, hb2⟩ : ∃ b, btw r.Line 0 59 = b := ⟨_, rfl⟩
        cases b2 with
        | false =>
          have HR := Lib.hid (row1_no (p := prevR rs k) (r := r) (by rw [hb2]; simp))
          clear hx
          go_wp2_with (fail)
          go_quiet ((first | (go_at_call 73; with_reducible exact in_iv hb1 _ _) | (go_at_call 73; with_reducible exact in_iv hb2 _ _)))
          go_wp2_with (fail)
          go_ret
          exact ⟨ret_bool (by rw [← hE.out, rowsG_at HX.out, HR.out]; rfl), gG⟩
        | true =>
          cases k with
          | zero =>
            simp only [Nat.zero_mul, Nat.add_zero] at x0 x1 x2
            have hz : ¬ ((0 : Int) < ((0 : Nat) : Int)) := by omega
            have hls : prevR rs 0 = -1 := rfl
            have hb1' := btw_iff.1 hb1
            have HR := Lib.hid (row1_iff.2 (show btw r.Offset 0 1000000 = true ∧ btw r.Line 0 59 = true ∧ prevR rs 0 < r.Offset from ⟨hb1, hb2, by omega⟩))
            go_wp2_with (fail)
            go_quiet ((first | (go_at_call 73; with_reducible exact in_iv hb1 _ _) | (go_at_call 73; with_reducible exact in_iv hb2 _ _)))
            go_wp2_with (fail)
            go_roundw
            case measure => (simp [intOf]; try omega)
            case rel => exact ⟨0 + 1, by go_num, by omega, Lib.hid gG, Lib.hid (by rw [← hE.out, rowsG_at HX.out, HR.out]; simp [prevR, HX.out])⟩
          | succ j =>
            obtain ⟨gq, offq, q, hAq, _, hqk, u0, u1, u2, _, _⟩ := atRow hx (k := j) (by omega)
            have u0 := gro_keeps u0 os d
            injection hAq with hAq
            injection hAq with hq1 hq2
            subst hq1 hq2
            have hls : prevR rs (j + 1) = q.Offset := by show (rs[j]?.map DRow.Offset).getD 0 = q.Offset; rw [hqk]; rfl
            have hz : (0 : Int) < (j : Int) + 1 := by omega
            have hw1 : IntKind.i64.wrap ((j : Int) + 1 - 1) = (j : Int) := by rw [show (j : Int) + 1 - 1 = (j : Int) from by omega]; exact IntWalk.i64_in _ ⟨by omega, by omega⟩
            have hji : (j : Int) < (rs.length : Int) := by omega
            by_cases a3 : r.Offset ≤ q.Offset
            · have a3b : decide (r.Offset ≤ q.Offset) = true := decide_eq_true a3
              have HR := Lib.hid (row1_no (p := prevR rs (j + 1)) (r := r) (by rw [hls]; intro h; omega))
              clear hx
              go_wp2_with (fail)
              go_quiet ((first | (go_at_call 73; with_reducible exact in_iv hb1 _ _) | (go_at_call 73; with_reducible exact in_iv hb2 _ _)))
              go_wp2_with (fail)
              go_ret
              exact ⟨ret_bool (by rw [← hE.out, rowsG_at HX.out, HR.out]; rfl), gG⟩
            · have a3b : decide (r.Offset ≤ q.Offset) = false := decide_eq_false a3
              have HR := Lib.hid (row1_iff.2 (show btw r.Offset 0 1000000 = true ∧ btw r.Line 0 59 = true ∧ prevR rs (j + 1) < r.Offset from ⟨hb1, hb2, by omega⟩))
              go_wp2_with (fail)
              go_quiet ((first | (go_at_call 73; with_reducible exact in_iv hb1 _ _) | (go_at_call 73; with_reducible exact in_iv hb2 _ _)))
              go_wp2_with (fail)
              go_roundw
              case measure => (simp [intOf]; try omega)
              case rel => exact ⟨(j + 1) + 1, by go_num, by omega, Lib.hid gG, Lib.hid (by rw [← hE.out, rowsG_at HX.out, HR.out]; simp [prevR, HX.out])⟩
    · have hki : ¬ ((k : Int) < (rs.length : Int)) := by omega
      go_wp2_with (fail)
      go_ret
      refine ⟨ret_bool ?_, gG⟩
      rw [← hE.out, show k = rs.length from by omega, List.drop_length]
      rfl
set_option maxRecDepth 100000 in
set_option maxHeartbeats 4000000 in
theorem rowsOk_s {rs : List DRow} {w : World} {A : Option Addr} {c : Nat} (hx : (tRow.sl 256).R w w.heap.size [.slice A rs.length c] rs) :
    Calls Tryz.prog 248 #[.slice A rs.length c] w fun e w' => e = .returned (.bool (rowsG (-1) rs)) ∧ Gro w w' := by
  obtain ⟨_, _, hx', h1, h2⟩ := sl_at hx
  injection hx' with e1 e2 e3
  subst e1 e3
  clear e2
  go_enter Tryz.func248, Tryz.ntmps248
  go_wp2
  go_loopw [3] (fun a wr => ∃ k : Nat, a = .int .i64 k ∧ k ≤ rs.length ∧ Hid (Gro w wr) ∧ Hid (rowsG (prevR rs k) (rs.drop k) = rowsG (-1) rs)) (fun a _ => rs.length - (intOf a).toNat)
  case atStart => exact ⟨0, rfl, Nat.zero_le _, Lib.hid (Gro.refl _), Lib.hid rfl⟩
  case round =>
    obtain ⟨k, rfl, hk, hG, hE⟩ := hrel
    obtain ⟨os, d, rfl⟩ := hG.out
    clear hG
    by_cases hlt : k < rs.length
    · obtain ⟨g, off, r, hA, hgb, hxk, x0, x1, x2, bo, bl⟩ := atRow hx hlt
      have HX := Lib.hid hxk
      have x0 := gro_keeps x0 os d
      have x1 := gro_keeps x1 os d
      have x2 := gro_keeps x2 os d
      have hki : (k : Int) < (rs.length : Int) := by omega
      clear hxk
      subst hA
      obtain ⟨b1, hb1⟩ : ∃ b, btw r.Offset 0 1000000 = b := ⟨_, rfl⟩
      cases b1 with
      | false =>
        have HR := Lib.hid (row1_no (p := prevR rs k) (r := r) (by rw [hb1]; simp))
        clear hx
        go_wp2_with (fail)
        go_quiet ((first | (go_at_call 78; with_reducible exact in_sv hb1 _ _)))
        go_wp2_with (fail)
        go_ret
        exact ⟨ret_bool (by rw [← hE.out, rowsG_at HX.out, HR.out]; rfl), gG⟩
      | true =>
        obtain ⟨b2, hb2⟩ : ∃ b, btw r.Line 0 59 = b := ⟨_, rfl⟩
        cases b2 with
        | false =>
          have HR := Lib.hid (row1_no (p := prevR rs k) (r := r) (by rw [hb2]; simp))
          clear hx
          go_wp2_with (fail)
          go_quiet ((first | (go_at_call 78; with_reducible exact in_sv hb1 _ _) | (go_at_call 78; with_reducible exact in_sv hb2 _ _)))
          go_wp2_with (fail)
          go_ret
          exact ⟨ret_bool (by rw [← hE.out, rowsG_at HX.out, HR.out]; rfl), gG⟩
        | true =>
          cases k with
          | zero =>
            simp only [Nat.zero_mul, Nat.add_zero] at x0 x1 x2
            have hz : ¬ ((0 : Int) < ((0 : Nat) : Int)) := by omega
            have hls : prevR rs 0 = -1 := rfl
            have hb1' := btw_iff.1 hb1
            have HR := Lib.hid (row1_iff.2 (show btw r.Offset 0 1000000 = true ∧ btw r.Line 0 59 = true ∧ prevR rs 0 < r.Offset from ⟨hb1, hb2, by omega⟩))
            go_wp2_with (fail)
            go_quiet ((first | (go_at_call 78; with_reducible exact in_sv hb1 _ _) | (go_at_call 78; with_reducible exact in_sv hb2 _ _)))
            go_wp2_with (fail)
            go_roundw
            case measure => (simp [intOf]; try omega)
            case rel => exact ⟨0 + 1, by go_num, by omega, Lib.hid gG, Lib.hid (by rw [← hE.out, rowsG_at HX.out, HR.out]; simp [prevR, HX.out])⟩
          | succ j =>
            obtain ⟨gq, offq, q, hAq, _, hqk, u0, u1, u2, _, _⟩ := atRow hx (k := j) (by omega)
            have u0 := gro_keeps u0 os d
            injection hAq with hAq
            injection hAq with hq1 hq2
            subst hq1 hq2
            have hls : prevR rs (j + 1) = q.Offset := by show (rs[j]?.map DRow.Offset).getD 0 = q.Offset; rw [hqk]; rfl
            have hz : (0 : Int) < (j : Int) + 1 := by omega
            have hw1 : IntKind.i64.wrap ((j : Int) + 1 - 1) = (j : Int) := by rw [show (j : Int) + 1 - 1 = (j : Int) from by omega]; exact IntWalk.i64_in _ ⟨by omega, by omega⟩
            have hji : (j : Int) < (rs.length : Int) := by omega
            by_cases a3 : r.Offset ≤ q.Offset
            · have a3b : decide (r.Offset ≤ q.Offset) = true := decide_eq_true a3
              have HR := Lib.hid (row1_no (p := prevR rs (j + 1)) (r := r) (by rw [hls]; intro h; omega))
              clear hx
              go_wp2_with (fail)
              go_quiet ((first | (go_at_call 78; with_reducible exact in_sv hb1 _ _) | (go_at_call 78; with_reducible exact in_sv hb2 _ _)))
              go_wp2_with (fail)
              go_ret
              exact ⟨ret_bool (by rw [← hE.out, rowsG_at HX.out, HR.out]; rfl), gG⟩
            · have a3b : decide (r.Offset ≤ q.Offset) = false := decide_eq_false a3
              have HR := Lib.hid (row1_iff.2 (show btw r.Offset 0 1000000 = true ∧ btw r.Line 0 59 = true ∧ prevR rs (j + 1) < r.Offset from ⟨hb1, hb2, by omega⟩))
              go_wp2_with (fail)
              go_quiet ((first | (go_at_call 78; with_reducible exact in_sv hb1 _ _) | (go_at_call 78; with_reducible exact in_sv hb2 _ _)))
              go_wp2_with (fail)
              go_roundw
              case measure => (simp [intOf]; try omega)
              case rel => exact ⟨(j + 1) + 1, by go_num, by omega, Lib.hid gG, Lib.hid (by rw [← hE.out, rowsG_at HX.out, HR.out]; simp [prevR, HX.out])⟩
    · have hki : ¬ ((k : Int) < (rs.length : Int)) := by omega
      go_wp2_with (fail)
      go_ret
      refine ⟨ret_bool ?_, gG⟩
      rw [← hE.out, show k = rs.length from by omega, List.drop_length]
      rfl
set_option maxRecDepth 100000 in
set_option maxHeartbeats 3000000 in
theorem findRow_i {rs : List DRow} {off : Int} {w : World} {A : Option Addr} {c : Nat} (hx : (tRow.sl 256).R w w.heap.size [.slice A rs.length c] rs) :
    Calls Tryz.prog 340 #[.slice A rs.length c, .int .i64 off] w fun e w' => e = .returned (.int .i64 (findRow rs off)) ∧ Gro w w' := by
  obtain ⟨_, _, hx', h1, h2⟩ := sl_at hx
  injection hx' with e1 e2 e3
  subst e1 e3
  clear e2
  obtain ⟨q, hq⟩ : ∃ q, rowsG (-1) rs = q := ⟨_, rfl⟩
  have HQ := Lib.hid hq
  cases q with
  | false =>
    have HF := Lib.hid (show findRow rs off = -1 from by unfold findRow; rw [hq]; rfl)
    clear hq
    go_enter Tryz.func340, Tryz.ntmps340
    go_wp2_with (go_at_call 232; (with_reducible refine (rowsOk_i (rs := rs) hx).mono ?_); rw [HQ.out]; rintro e w1 ⟨rfl, hg1⟩)
    go_ret
    exact ⟨ret_int HF.out.symm, hg1⟩
  | true =>
    have HF := Lib.hid (show findRow rs off = rowAt rs off 0 (-1) from by unfold findRow; rw [hq]; rfl)
    clear hq
    go_enter Tryz.func340, Tryz.ntmps340
    go_wp2_with (go_at_call 232; (with_reducible refine (rowsOk_i (rs := rs) hx).mono ?_); rw [HQ.out]; rintro e w1 ⟨rfl, hg1⟩)
    have hx1 := Ty.up _ hx hg1
    go_loopw [5, 13] (fun z a wr => ∃ (k : Nat) (f : Int), z = .int .i64 f ∧ a = .int .i64 k ∧ k ≤ rs.length ∧ Hid (Gro w1 wr) ∧ Hid (rowAt (rs.drop k) off k f = findRow rs off)) (fun _ a _ => rs.length - (intOf a).toNat)
    case atStart => exact ⟨0, -1, rfl, rfl, Nat.zero_le _, Lib.hid (Gro.refl _), Lib.hid HF.out.symm⟩
    case round =>
      obtain ⟨k, f, rfl, rfl, hk, hG, hE⟩ := hrel
      obtain ⟨os, d, rfl⟩ := hG.out
      clear hG
      by_cases hlt : k < rs.length
      · obtain ⟨g, offx, r, hA, hgb, hxk, x0, x1, x2, bo, bl⟩ := atRow hx1 hlt
        have HX := Lib.hid hxk
        have x0 := gro_keeps x0 os d
        have x1 := gro_keeps x1 os d
        have x2 := gro_keeps x2 os d
        have hki : (k : Int) < (rs.length : Int) := by omega
        clear hxk hx hx1
        subst hA
        by_cases a1 : r.Offset ≤ off
        · have a1b : decide (r.Offset ≤ off) = true := decide_eq_true a1
          go_wp2_with (fail)
          go_roundw
          case measure => (simp [intOf]; try omega)
          case rel => exact ⟨k + 1, (k : Int), rfl, by go_num, by omega, Lib.hid gG, Lib.hid (by rw [← hE.out, rowAt_at HX.out, if_pos a1])⟩
        · have a1b : decide (r.Offset ≤ off) = false := decide_eq_false a1
          go_wp2_with (fail)
          go_roundw
          case measure => (simp [intOf]; try omega)
          case rel => exact ⟨k + 1, f, rfl, by go_num, by omega, Lib.hid gG, Lib.hid (by rw [← hE.out, rowAt_at HX.out, if_neg a1])⟩
      · have hki : ¬ ((k : Int) < (rs.length : Int)) := by omega
        have hE2 := hE.out
        rw [show k = rs.length from by omega, List.drop_length] at hE2
        have HE2 := Lib.hid (show f = findRow rs off from hE2)
        clear hE2
        go_wp2_with (fail)
        exact bodyPost_ret (v := .int .i64 f) (by simp [results, Tryz.results340, go_sem]) rfl ⟨ret_int HE2.out, hg1.trans gG⟩
set_option maxRecDepth 100000 in
set_option maxHeartbeats 3000000 in
theorem findRow_s {rs : List DRow} {off : Int} {w : World} {A : Option Addr} {c : Nat} (hx : (tRow.sl 256).R w w.heap.size [.slice A rs.length c] rs) :
    Calls Tryz.prog 287 #[.slice A rs.length c, .int .i64 off] w fun e w' => e = .returned (.int .i64 (findRow rs off)) ∧ Gro w w' := by
  obtain ⟨_, _, hx', h1, h2⟩ := sl_at hx
  injection hx' with e1 e2 e3
  subst e1 e3
  clear e2
  obtain ⟨q, hq⟩ : ∃ q, rowsG (-1) rs = q := ⟨_, rfl⟩
  have HQ := Lib.hid hq
  cases q with
  | false =>
    have HF := Lib.hid (show findRow rs off = -1 from by unfold findRow; rw [hq]; rfl)
    clear hq
    go_enter Tryz.func287, Tryz.ntmps287
    go_wp2_with (go_at_call 248; (with_reducible refine (rowsOk_s (rs := rs) hx).mono ?_); rw [HQ.out]; rintro e w1 ⟨rfl, hg1⟩)
    go_loopw [5, 7] (fun z a wr => z = .int .i64 (-1) ∧ a = .int .i64 0 ∧ wr = w1) (fun _ _ _ => 0)
    case atStart => exact ⟨rfl, rfl, rfl⟩
    case round =>
      obtain ⟨rfl, rfl, rfl⟩ := hrel
      by_cases hn0 : (0 : Int) < (rs.length : Int)
      · go_wp2_with (fail)
        exact bodyPost_ret (v := .int .i64 (-1)) (by simp [results, Tryz.results287, go_sem]) rfl ⟨ret_int HF.out.symm, hg1⟩
      · go_wp2_with (fail)
        exact bodyPost_ret (v := .int .i64 (-1)) (by simp [results, Tryz.results287, go_sem]) rfl ⟨ret_int HF.out.symm, hg1⟩
  | true =>
    have HF := Lib.hid (show findRow rs off = rowAt rs off 0 (-1) from by unfold findRow; rw [hq]; rfl)
    clear hq
    go_enter Tryz.func287, Tryz.ntmps287
    go_wp2_with (go_at_call 248; (with_reducible refine (rowsOk_s (rs := rs) hx).mono ?_); rw [HQ.out]; rintro e w1 ⟨rfl, hg1⟩)
    have hx1 := Ty.up _ hx hg1
    go_loopw [5, 7] (fun z a wr => ∃ (k : Nat) (f : Int), z = .int .i64 f ∧ a = .int .i64 k ∧ k ≤ rs.length ∧ Hid (Gro w1 wr) ∧ Hid (rowAt (rs.drop k) off k f = findRow rs off)) (fun _ a _ => rs.length - (intOf a).toNat)
    case atStart => exact ⟨0, -1, rfl, rfl, Nat.zero_le _, Lib.hid (Gro.refl _), Lib.hid HF.out.symm⟩
    case round =>
      obtain ⟨k, f, rfl, rfl, hk, hG, hE⟩ := hrel
      obtain ⟨os, d, rfl⟩ := hG.out
      clear hG
      by_cases hlt : k < rs.length
      · obtain ⟨g, offx, r, hA, hgb, hxk, x0, x1, x2, bo, bl⟩ := atRow hx1 hlt
        have HX := Lib.hid hxk
        have x0 := gro_keeps x0 os d
        have x1 := gro_keeps x1 os d
        have x2 := gro_keeps x2 os d
        have hki : (k : Int) < (rs.length : Int) := by omega
        clear hxk hx hx1
        subst hA
        by_cases a1 : r.Offset ≤ off
        · have a1b : decide (r.Offset ≤ off) = true := decide_eq_true a1
          go_wp2_with (fail)
          go_roundw
          case measure => (simp [intOf]; try omega)
          case rel => exact ⟨k + 1, (k : Int), rfl, by go_num, by omega, Lib.hid gG, Lib.hid (by rw [← hE.out, rowAt_at HX.out, if_pos a1])⟩
        · have a1b : decide (r.Offset ≤ off) = false := decide_eq_false a1
          go_wp2_with (fail)
          go_roundw
          case measure => (simp [intOf]; try omega)
          case rel => exact ⟨k + 1, f, rfl, by go_num, by omega, Lib.hid gG, Lib.hid (by rw [← hE.out, rowAt_at HX.out, if_neg a1])⟩
      · have hki : ¬ ((k : Int) < (rs.length : Int)) := by omega
        have hE2 := hE.out
        rw [show k = rs.length from by omega, List.drop_length] at hE2
        have HE2 := Lib.hid (show f = findRow rs off from hE2)
        clear hE2
        go_wp2_with (fail)
        exact bodyPost_ret (v := .int .i64 f) (by simp [results, Tryz.results287, go_sem]) rfl ⟨ret_int HE2.out, hg1.trans gG⟩
set_option maxRecDepth 100000 in
set_option maxHeartbeats 3000000 in
theorem isStart_i {rs : List DRow} {off : Int} {w : World} {A : Option Addr} {c : Nat} (hx : (tRow.sl 256).R w w.heap.size [.slice A rs.length c] rs) :
    Calls Tryz.prog 341 #[.slice A rs.length c, .int .i64 off] w fun e w' => e = .returned (.bool (isStart rs off)) ∧ Gro w w' := by
  obtain ⟨_, _, hx', h1, h2⟩ := sl_at hx
  injection hx' with e1 e2 e3
  subst e1 e3
  clear e2
  rcases findRow_res rs off with h | ⟨j, r, hj, h⟩
  · have HQ := Lib.hid h
    have HS := Lib.hid (show isStart rs off = false from by unfold isStart; rw [h]; rfl)
    clear h
    go_enter Tryz.func341, Tryz.ntmps341
    go_wp2_with (go_at_call 340; (with_reducible refine (findRow_i (rs := rs) (off := off) hx).mono ?_); rw [HQ.out]; rintro e w1 ⟨rfl, hg1⟩)
    go_ret
    exact ⟨ret_bool HS.out.symm, hg1⟩
  · have HQ := Lib.hid h
    have HS := Lib.hid (show isStart rs off = (decide (r.Offset = off) && r.Start) from by unfold isStart; rw [h]; simp [hj])
    have hlt := (List.getElem?_eq_some_iff.1 hj).1
    obtain ⟨g, offx, r', hA, hgb, hxk, x0, x1, x2, bo, bl⟩ := atRow hx hlt
    have hrr : r' = r := by rw [hj] at hxk; injection hxk with hxk; exact hxk.symm
    subst hrr
    have hki : (j : Int) < (rs.length : Int) := by omega
    have hk0 : ¬ ((j : Int) < 0) := by omega
    have hk1 : (0 : Int) ≤ (j : Int) := by omega
    clear h hxk hj
    subst hA
    by_cases a1 : r'.Offset = off
    · have a1b : (r'.Offset == off) = true := by simp [a1]
      have HS2 := Lib.hid (show isStart rs off = r'.Start from by rw [HS.out, decide_eq_true a1, Bool.true_and])
      clear a1
      go_enter Tryz.func341, Tryz.ntmps341
      go_wp2_with (go_at_call 340; (with_reducible refine (findRow_i (rs := rs) (off := off) hx).mono ?_); rw [HQ.out]; rintro e w1 ⟨rfl, hg1⟩; have x0 := grow_cellR hg1 x0; have x1 := grow_cellR hg1 x1; have x2 := grow_cellR hg1 x2)
      go_ret
      exact ⟨ret_bool HS2.out.symm, hg1⟩
    · have a1b : (r'.Offset == off) = false := by simp [a1]
      have HS2 := Lib.hid (show isStart rs off = false from by rw [HS.out, decide_eq_false a1, Bool.false_and])
      clear a1
      go_enter Tryz.func341, Tryz.ntmps341
      go_wp2_with (go_at_call 340; (with_reducible refine (findRow_i (rs := rs) (off := off) hx).mono ?_); rw [HQ.out]; rintro e w1 ⟨rfl, hg1⟩; have x0 := grow_cellR hg1 x0; have x1 := grow_cellR hg1 x1; have x2 := grow_cellR hg1 x2)
      go_ret
      exact ⟨ret_bool HS2.out.symm, hg1⟩
set_option maxRecDepth 100000 in
set_option maxHeartbeats 3000000 in
theorem isStart_s {rs : List DRow} {off : Int} {w : World} {A : Option Addr} {c : Nat} (hx : (tRow.sl 256).R w w.heap.size [.slice A rs.length c] rs) :
    Calls Tryz.prog 288 #[.slice A rs.length c, .int .i64 off] w fun e w' => e = .returned (.bool (isStart rs off)) ∧ Gro w w' := by
  obtain ⟨_, _, hx', h1, h2⟩ := sl_at hx
  injection hx' with e1 e2 e3
  subst e1 e3
  clear e2
  rcases findRow_res rs off with h | ⟨j, r, hj, h⟩
  · have HQ := Lib.hid h
    have HS := Lib.hid (show isStart rs off = false from by unfold isStart; rw [h]; rfl)
    clear h
    go_enter Tryz.func288, Tryz.ntmps288
    go_wp2_with (go_at_call 287; (with_reducible refine (findRow_s (rs := rs) (off := off) hx).mono ?_); rw [HQ.out]; rintro e w1 ⟨rfl, hg1⟩)
    go_ret
    exact ⟨ret_bool HS.out.symm, hg1⟩
  · have HQ := Lib.hid h
    have HS := Lib.hid (show isStart rs off = (decide (r.Offset = off) && r.Start) from by unfold isStart; rw [h]; simp [hj])
    have hlt := (List.getElem?_eq_some_iff.1 hj).1
    obtain ⟨g, offx, r', hA, hgb, hxk, x0, x1, x2, bo, bl⟩ := atRow hx hlt
    have hrr : r' = r := by rw [hj] at hxk; injection hxk with hxk; exact hxk.symm
    subst hrr
    have hki : (j : Int) < (rs.length : Int) := by omega
    have hk0 : ¬ ((j : Int) < 0) := by omega
    have hk1 : (0 : Int) ≤ (j : Int) := by omega
    clear h hxk hj
    subst hA
    by_cases a1 : r'.Offset = off
    · have a1b : (r'.Offset == off) = true := by simp [a1]
      have HS2 := Lib.hid (show isStart rs off = r'.Start from by rw [HS.out, decide_eq_true a1, Bool.true_and])
      clear a1
      go_enter Tryz.func288, Tryz.ntmps288
      go_wp2_with (go_at_call 287; (with_reducible refine (findRow_s (rs := rs) (off := off) hx).mono ?_); rw [HQ.out]; rintro e w1 ⟨rfl, hg1⟩; have x0 := grow_cellR hg1 x0; have x1 := grow_cellR hg1 x1; have x2 := grow_cellR hg1 x2)
      go_ret
      exact ⟨ret_bool HS2.out.symm, hg1⟩
    · have a1b : (r'.Offset == off) = false := by simp [a1]
      have HS2 := Lib.hid (show isStart rs off = false from by rw [HS.out, decide_eq_false a1, Bool.false_and])
      clear a1
      go_enter Tryz.func288, Tryz.ntmps288
      go_wp2_with (go_at_call 287; (with_reducible refine (findRow_s (rs := rs) (off := off) hx).mono ?_); rw [HQ.out]; rintro e w1 ⟨rfl, hg1⟩; have x0 := grow_cellR hg1 x0; have x1 := grow_cellR hg1 x1; have x2 := grow_cellR hg1 x2)
      go_ret
      exact ⟨ret_bool HS2.out.symm, hg1⟩
end Go.Proofs.YtgodpjnbhmahaaaGreat
namespace Go.Proofs.YtgodpjnbhmahaaaGreat
open Go.RowKit
theorem symGo_res : ∀ (syms : List DSymbol) (off : Int) (k : Nat), symGo syms off k = -1 ∨ ∃ (j : Nat) (x : DSymbol), syms[j]? = some x ∧ symGo syms off k = ((k + j : Nat) : Int)
  | [], _, _ => .inl rfl
  | x :: r, off, k => by
    unfold symGo
    by_cases h : symHit x off = true
    · rw [if_pos h]
      exact .inr ⟨0, x, rfl, rfl⟩
    · rw [if_neg h]
      rcases symGo_res r off (k + 1) with h1 | ⟨j, y, h1, h2⟩
      · exact .inl h1
      · exact .inr ⟨j + 1, y, by simpa using h1, by rw [h2]; congr 1; omega⟩
theorem symAt_res (syms : List DSymbol) (off : Int) : symGo syms off 0 = -1 ∨ ∃ (j : Nat) (x : DSymbol), syms[j]? = some x ∧ symGo syms off 0 = (j : Int) := by
  rcases symGo_res syms off 0 with h | ⟨j, x, h1, h2⟩
  · exact .inl h
  · exact .inr ⟨j, x, h1, by rw [h2, Nat.zero_add]⟩
def frameGo : ByteArray → List DInline → Int → List DFrame
  | nm, [], ln => [⟨nm, ln⟩]
  | nm, x :: xs, ln => ⟨nm, x.Line⟩ :: frameGo x.Name xs ln
theorem frameGo_at {xs : List DInline} {k : Nat} {x : DInline} (h : xs[k]? = some x) (nm : ByteArray) (ln : Int) : frameGo nm (xs.drop k) ln = ⟨nm, x.Line⟩ :: frameGo x.Name (xs.drop (k + 1)) ln := by
  obtain ⟨h1, rfl⟩ := List.getElem?_eq_some_iff.1 h
  rw [List.drop_eq_getElem_cons h1]
  rfl
theorem frameGo_len : ∀ (nm : ByteArray) (xs : List DInline) (ln : Int), (frameGo nm xs ln).length = xs.length + 1
  | _, [], _ => rfl
  | _, x :: xs, ln => by simp [frameGo, frameGo_len x.Name xs ln]
theorem inlinesAt_len (xs : List DInline) (off : Int) : (inlinesAt xs off).length ≤ xs.length := by
  unfold inlinesAt
  split
  · exact List.length_filter_le _ _
  · exact Nat.zero_le _
def framesAt (d : DDebug) (off : Int) (start : Bool) : Option (List DFrame) :=
  if symGo d.Symbols off 0 < 0 ∨ findRow d.Rows off < 0 ∨ (start = true ∧ isStart d.Rows off = false) then none
  else match d.Symbols[(symGo d.Symbols off 0).toNat]?, d.Rows[(findRow d.Rows off).toNat]? with
    | some s, some r => some (frameGo s.Name (inlinesAt d.Inlines off) r.Line)
    | _, _ => none
theorem framesAt_sym {d : DDebug} {off : Int} {start : Bool} (h : symGo d.Symbols off 0 = -1) : framesAt d off start = none := by
  unfold framesAt
  rw [if_pos (.inl (by omega))]
theorem framesAt_row {d : DDebug} {off : Int} {start : Bool} (h : findRow d.Rows off = -1) : framesAt d off start = none := by
  unfold framesAt
  rw [if_pos (.inr (.inl (by omega)))]
theorem framesAt_start {d : DDebug} {off : Int} (h : isStart d.Rows off = false) : framesAt d off true = none := by
  unfold framesAt
  rw [if_pos (.inr (.inr ⟨rfl, h⟩))]
theorem framesAt_yes {d : DDebug} {off : Int} {start : Bool} {j i : Nat} {s : DSymbol} {r : DRow} (h1 : symGo d.Symbols off 0 = (j : Int)) (h2 : findRow d.Rows off = (i : Int)) (h3 : start = true → isStart d.Rows off = true) (hs : d.Symbols[j]? = some s) (hr : d.Rows[i]? = some r) :
    framesAt d off start = some (frameGo s.Name (inlinesAt d.Inlines off) r.Line) := by
  unfold framesAt
  rw [if_neg (by
    rintro (h | h | ⟨h, h'⟩)
    · omega
    · omega
    · rw [h3 h] at h'; cases h')]
  rw [h1, h2, Int.toNat_natCast, Int.toNat_natCast, hs, hr]
theorem framesAt_len {d : DDebug} {off : Int} {start : Bool} {xs : List DFrame} (h : framesAt d off start = some xs) : xs.length ≤ d.Inlines.length + 1 := by
  unfold framesAt at h
  split at h
  · cases h
  · split at h
    · injection h with h
      subst h
      rw [frameGo_len]
      have := inlinesAt_len d.Inlines off
      omega
    · cases h
/-- a list of frames of the call's own and a word -/
def RetFr (o : Option (List DFrame)) (w : World) (r : Ending) (w' : World) : Prop := ∃ A c S, r = .returned (.tuple #[.slice A (o.getD []).length c, .bool o.isSome]) ∧ Has (tFrame.sl 59) w' [.slice A (o.getD []).length c] (o.getD []) S ∧ (∀ b ∈ S, w.heap.size ≤ b) ∧ Gro w w'
theorem RetFr.yes {o : Option (List DFrame)} {xs : List DFrame} {w w' : World} {A : Option Addr} {n c : Nat} {S : List Nat} (ho : o = some xs) (h : Has (tFrame.sl 59) w' [.slice A n c] xs S) (hn : n = xs.length) (hS : ∀ b ∈ S, w.heap.size ≤ b) (hg : Gro w w') : RetFr o w (.returned (.tuple #[.slice A n c, .bool true])) w' := by
  subst ho hn
  exact ⟨A, c, S, rfl, h, hS, hg⟩
theorem RetFr.no {o : Option (List DFrame)} {w w' : World} {A : Option Addr} {c : Nat} {S : List Nat} (ho : o = none) (h : Has (tFrame.sl 59) w' [.slice A 0 c] [] S) (hS : ∀ b ∈ S, w.heap.size ≤ b) (hg : Gro w w') : RetFr o w (.returned (.tuple #[.slice A 0 c, .bool false])) w' := by
  subst ho
  exact ⟨A, c, S, rfl, h, hS, hg⟩
theorem RetFr.nil {o : Option (List DFrame)} {w w' : World} (ho : o = none) (hg : Gro w w') : RetFr o w (.returned (.tuple #[.slice none 0 0, .bool false])) w' :=
  RetFr.no (S := []) ho (Has.nil _ _ _) (by simp) hg
theorem OnlyS.on {L S : List Nat} {v a b c : World} (h : OnlyS L v a) (hg : Gro a b) (hon : OnlyS S b c) (hS : ∀ k ∈ S, k ∈ L ∨ v.heap.size ≤ k) : OnlyS L v c := by
  have k := h.trans (hg.only L)
  exact ⟨hon.os.trans k.os, hon.tape.trans k.tape, hon.output.trans k.output, Nat.le_trans k.size hon.size, fun i hi hn => (hon.block i (Nat.lt_of_lt_of_le hi k.size) (fun hm => (hS i hm).elim hn (fun h => by omega))).trans (k.block i hi hn)⟩
theorem has_blk {α : Type} {T : Ty α} {e : TypeId} {W : World} {g off n c : Nat} {xs : List α} {S : List Nat} (h : Has (T.sl e) W [.slice (some ⟨g, off, none⟩) n c] xs S) : g ∈ S := by
  obtain ⟨⟨A', c', ecs, S', h1, h2, h3, h4⟩, _⟩ := h
  injection h1 with h1 _
  injection h1 with hA _ _
  subst hA h4
  simp [blockOf]
/-- a debug file is read in w -/
structure DebugR (d : DDebug) (w : World) (A0 A1 A2 A3 : Option Addr) (c0 c1 c2 c3 : Nat) : Prop where
  s : (tSymbol.sl 193).R w w.heap.size [.slice A0 d.Symbols.length c0] d.Symbols
  u : (tRule.sl 254).R w w.heap.size [.slice A1 d.Rules.length c1] d.Rules
  r : (tRow.sl 256).R w w.heap.size [.slice A2 d.Rows.length c2] d.Rows
  n : (tInline.sl 260).R w w.heap.size [.slice A3 d.Inlines.length c3] d.Inlines
  hn : d.Inlines.length ≤ 1099511627776
theorem DebugR.up {d : DDebug} {w w' : World} {A0 A1 A2 A3 : Option Addr} {c0 c1 c2 c3 : Nat} (h : DebugR d w A0 A1 A2 A3 c0 c1 c2 c3) (hg : Gro w w') : DebugR d w' A0 A1 A2 A3 c0 c1 c2 c3 :=
  ⟨Ty.up _ h.s hg, Ty.up _ h.u hg, Ty.up _ h.r hg, Ty.up _ h.n hg, h.hn⟩
end Go.Proofs.YtgodpjnbhmahaaaGreat
namespace Go.Proofs.YtgodpjnbhmahaaaGreat
open Go.RowKit
theorem locGo_res : ∀ (imgs : List DImage) (bases : List Int) (e : Int) (k : Nat), locGo imgs bases e k = (-1, -1) ∨ ∃ (j : Nat) (x : DImage) (b : Int), imgs[j]? = some x ∧ bases[j]? = some b ∧ locGo imgs bases e k = (((k + j : Nat) : Int), e - b) ∧ b ≤ e ∧ e < b + x.Code.size := by
  intro imgs
  induction imgs with
  | nil => intro bases e k; exact .inl (locGo_nil bases e k)
  | cons x r ih =>
    intro bases e k
    cases bases with
    | nil => exact .inl rfl
    | cons b bs =>
      have h := locGo_at (imgs := x :: r) (bases := b :: bs) (k := 0) (x := x) (b := b) rfl rfl e
      by_cases hq : b ≤ e ∧ e < b + x.Code.size
      · refine .inr ⟨0, x, b, rfl, rfl, ?_, hq.1, hq.2⟩
        unfold locGo
        rw [if_pos hq]
        rfl
      · have hs : locGo (x :: r) (b :: bs) e k = locGo r bs e (k + 1) := by
          rw [locGo, if_neg hq]
        rcases ih bs e (k + 1) with h1 | ⟨j, y, c, h1, h2, h3, h4, h5⟩
        · exact .inl (hs.trans h1)
        · exact .inr ⟨j + 1, y, c, h1, h2, by rw [hs, h3]; simp; omega, h4, h5⟩
end Go.Proofs.YtgodpjnbhmahaaaGreat
namespace Go.Proofs.YtgodpjnbhmahaaaGreat
open Go.RowKit
structure DView where
  Pc : Int
  Sp : Int
  Fp : Int
  Words : List Int
  deriving DecidableEq
def tView : Ty DView := (intT.prod (intT.prod (intT.prod (intT.sl 3)))).via fun x => (x.Pc, x.Sp, x.Fp, x.Words)
theorem tView_opens : Opens Tryz.prog 69 tView := opens_via _ (fun x => ⟨x.1, x.2.1, x.2.2.1, x.2.2.2⟩) (fun _ => rfl) (opens_struct Tryz.underlying69 (by kernel_rfl) (opF_cons rfl (by kernel_rfl) (opens_int Tryz.underlying3) (opF_cons rfl (by kernel_rfl) (opens_int Tryz.underlying3) (opF_cons rfl (by kernel_rfl) (opens_int Tryz.underlying3) (opF_one rfl (by kernel_rfl) (opens_sl Tryz.underlying26 (by kernel_rfl) (by decide) (opens_int Tryz.underlying3)))))))
theorem tView_O {w : World} {cs : List Value} {x : DView} {S : List Nat} (h : tView.O w cs x S) : ∃ A0 c0 S0, cs = [.int .i64 x.Pc, .int .i64 x.Sp, .int .i64 x.Fp, .slice A0 x.Words.length c0] ∧ S = S0 ∧ I64 x.Pc ∧ I64 x.Sp ∧ I64 x.Fp ∧ (intT.sl 3).O w [.slice A0 x.Words.length c0] x.Words S0 := by
  obtain ⟨_, _, _, _, rfl, rfl, ⟨rfl, b1_Pc, b2_Pc, rfl⟩, ⟨_, _, _, _, rfl, rfl, ⟨rfl, b1_Sp, b2_Sp, rfl⟩, ⟨_, _, _, _, rfl, rfl, ⟨rfl, b1_Fp, b2_Fp, rfl⟩, s_Words⟩⟩⟩ := h
  obtain ⟨A0, c0, _, _, rfl, _⟩ := id s_Words
  exact ⟨A0, c0, _, rfl, by simp, ⟨b1_Pc, b2_Pc⟩, ⟨b1_Sp, b2_Sp⟩, ⟨b1_Fp, b2_Fp⟩, s_Words⟩
theorem tView_mkO {w : World} {x : DView} (A0 : Option Addr) (c0 : Nat) (S0 : List Nat)  (h0 : I64 x.Pc) (h1 : I64 x.Sp) (h2 : I64 x.Fp) (h3 : (intT.sl 3).O w [.slice A0 x.Words.length c0] x.Words S0) : tView.O w [.int .i64 x.Pc, .int .i64 x.Sp, .int .i64 x.Fp, .slice A0 x.Words.length c0] x (S0) := by
  have h : tView.O w [.int .i64 x.Pc, .int .i64 x.Sp, .int .i64 x.Fp, .slice A0 x.Words.length c0] x ([] ++ ([] ++ ([] ++ S0))) := ⟨[.int .i64 x.Pc], [.int .i64 x.Sp, .int .i64 x.Fp, .slice A0 x.Words.length c0], [], ([] ++ ([] ++ S0)), rfl, rfl, ⟨rfl, h0.1, h0.2, rfl⟩, ⟨[.int .i64 x.Sp], [.int .i64 x.Fp, .slice A0 x.Words.length c0], [], ([] ++ S0), rfl, rfl, ⟨rfl, h1.1, h1.2, rfl⟩, ⟨[.int .i64 x.Fp], [.slice A0 x.Words.length c0], [], S0, rfl, rfl, ⟨rfl, h2.1, h2.2, rfl⟩, h3⟩⟩⟩
  simpa using h
structure DSample where
  Thread : Int
  View : DView
  deriving DecidableEq
def tSample : Ty DSample := (intT.prod tView).via fun x => (x.Thread, x.View)
theorem tSample_opens : Opens Tryz.prog 71 tSample := opens_via _ (fun x => ⟨x.1, x.2⟩) (fun _ => rfl) (opens_struct Tryz.underlying71 (by kernel_rfl) (opF_cons rfl (by kernel_rfl) (opens_int Tryz.underlying3) (opF_one rfl (by kernel_rfl) tView_opens)))
theorem tSample_R {w : World} {B : Nat} {cs : List Value} {x : DSample} (h : tSample.R w B cs x) : ∃ A0 c0, cs = [.int .i64 x.Thread, .int .i64 x.View.Pc, .int .i64 x.View.Sp, .int .i64 x.View.Fp, .slice A0 x.View.Words.length c0] ∧ I64 x.Thread ∧ I64 x.View.Pc ∧ I64 x.View.Sp ∧ I64 x.View.Fp ∧ (intT.sl 3).R w B [.slice A0 x.View.Words.length c0] x.View.Words := by
  obtain ⟨_, _, rfl, ⟨rfl, b1_Thread, b2_Thread⟩, ⟨_, _, rfl, ⟨rfl, b1_View_Pc, b2_View_Pc⟩, ⟨_, _, rfl, ⟨rfl, b1_View_Sp, b2_View_Sp⟩, ⟨_, _, rfl, ⟨rfl, b1_View_Fp, b2_View_Fp⟩, s_View_Words⟩⟩⟩⟩ := h
  obtain ⟨A0, c0, rfl, _⟩ := id s_View_Words
  exact ⟨A0, c0, rfl, ⟨b1_Thread, b2_Thread⟩, ⟨b1_View_Pc, b2_View_Pc⟩, ⟨b1_View_Sp, b2_View_Sp⟩, ⟨b1_View_Fp, b2_View_Fp⟩, s_View_Words⟩
theorem tSample_O {w : World} {cs : List Value} {x : DSample} {S : List Nat} (h : tSample.O w cs x S) : ∃ A0 c0 S0, cs = [.int .i64 x.Thread, .int .i64 x.View.Pc, .int .i64 x.View.Sp, .int .i64 x.View.Fp, .slice A0 x.View.Words.length c0] ∧ S = S0 ∧ I64 x.Thread ∧ I64 x.View.Pc ∧ I64 x.View.Sp ∧ I64 x.View.Fp ∧ (intT.sl 3).O w [.slice A0 x.View.Words.length c0] x.View.Words S0 := by
  obtain ⟨_, _, _, _, rfl, rfl, ⟨rfl, b1_Thread, b2_Thread, rfl⟩, ⟨_, _, _, _, rfl, rfl, ⟨rfl, b1_View_Pc, b2_View_Pc, rfl⟩, ⟨_, _, _, _, rfl, rfl, ⟨rfl, b1_View_Sp, b2_View_Sp, rfl⟩, ⟨_, _, _, _, rfl, rfl, ⟨rfl, b1_View_Fp, b2_View_Fp, rfl⟩, s_View_Words⟩⟩⟩⟩ := h
  obtain ⟨A0, c0, _, _, rfl, _⟩ := id s_View_Words
  exact ⟨A0, c0, _, rfl, by simp, ⟨b1_Thread, b2_Thread⟩, ⟨b1_View_Pc, b2_View_Pc⟩, ⟨b1_View_Sp, b2_View_Sp⟩, ⟨b1_View_Fp, b2_View_Fp⟩, s_View_Words⟩
end Go.Proofs.YtgodpjnbhmahaaaGreat
namespace Go.Proofs.YtgodpjnbhmahaaaGreat
open Go.RowKit
def RetView (x : DView) (w : World) (r : Ending) (w' : World) : Prop := ∃ A0 c0, r = .returned (.agg #[.int .i64 x.Pc, .int .i64 x.Sp, .int .i64 x.Fp, .slice A0 x.Words.length c0]) ∧ Fresh tView w w' [.int .i64 x.Pc, .int .i64 x.Sp, .int .i64 x.Fp, .slice A0 x.Words.length c0] x ∧ Gro w w'
theorem tView_mkOd {w : World} {x : DView} {A0 : Option Addr} {c0 : Nat} {S3 : List Nat} (h0 : I64 x.Pc) (h1 : I64 x.Sp) (h2 : I64 x.Fp) (h3 : (intT.sl 3).O w [.slice A0 x.Words.length c0] x.Words S3) : tView.O w [.int .i64 x.Pc, .int .i64 x.Sp, .int .i64 x.Fp, .slice A0 x.Words.length c0] x (S3) := by
  have h : tView.O w [.int .i64 x.Pc, .int .i64 x.Sp, .int .i64 x.Fp, .slice A0 x.Words.length c0] x ([] ++ ([] ++ ([] ++ S3))) := ⟨[.int .i64 x.Pc], [.int .i64 x.Sp, .int .i64 x.Fp, .slice A0 x.Words.length c0], [], ([] ++ ([] ++ S3)), rfl, rfl, ⟨rfl, h0.1, h0.2, rfl⟩, ⟨[.int .i64 x.Sp], [.int .i64 x.Fp, .slice A0 x.Words.length c0], [], ([] ++ S3), rfl, rfl, ⟨rfl, h1.1, h1.2, rfl⟩, ⟨[.int .i64 x.Fp], [.slice A0 x.Words.length c0], [], S3, rfl, rfl, ⟨rfl, h2.1, h2.2, rfl⟩, h3⟩⟩⟩
  simpa using h
theorem tView_fresh {w W : World} {x : DView} {A0 : Option Addr} {c0 : Nat} {u3 : World} {m3 : Nat} (h0 : I64 x.Pc) (h1 : I64 x.Sp) (h2 : I64 x.Fp) (h3 : Fre (intT.sl 3) u3 m3 W [.slice A0 x.Words.length c0] x.Words) (hw3 : w.heap.size ≤ u3.heap.size) : Fresh tView w W [.int .i64 x.Pc, .int .i64 x.Sp, .int .i64 x.Fp, .slice A0 x.Words.length c0] x := by
  obtain ⟨S3, hO3, hN3, hI3⟩ := h3
  exact ⟨_, tView_mkOd h0 h1 h2 hO3, hN3, fun b hb => (by have := hI3 b hb; omega)⟩
theorem eq_DView {x y : DView} : x = y ↔ x.Pc = y.Pc ∧ x.Sp = y.Sp ∧ x.Fp = y.Fp ∧ x.Words = y.Words := by
  cases x
  cases y
  simp
def szView (x : DView) : Nat := x.Words.length
set_option maxRecDepth 100000 in
theorem toView_l {x : DView} {w : World} {A0 : Option Addr} {c0 : Nat} (h0 : I64 x.Pc) (h1 : I64 x.Sp) (h2 : I64 x.Fp) (h3 : (intT.sl 3).R w w.heap.size [.slice A0 x.Words.length c0] x.Words) (hn : szView x ≤ 1099511627776) : Calls Tryz.prog 99 #[.agg #[.int .i64 x.Pc, .int .i64 x.Sp, .int .i64 x.Fp, .slice A0 x.Words.length c0]] w (RetView x w) := by
  unfold szView at hn
  go_enter Tryz.func99, Tryz.ntmps99
  go_wp2_with (first
      | (go_at_call 155; (with_reducible refine (toIntS_l (xs := x.Words) (Ty.up _ h3 gG) (by omega)).mono ?_); rintro e w3 ⟨B0, d0, rfl, hF3, os3, dd3, rfl⟩))
  refine bodyPost_ret (v := .agg #[.int .i64 x.Pc, .int .i64 x.Sp, .int .i64 x.Fp, .slice B0 x.Words.length d0]) (by simp [results, Tryz.results99, go_sem]) rfl ⟨B0, d0, rfl, ?_, gG⟩
  obtain ⟨S3, hO3, hN3, hL3⟩ := hF3
  have hU3 := Ty.ltO _ hO3
  have hL3' := hL3
  simp at hL3' hU3
  exact ⟨_, tView_mkOd h0 h1 h2 (Ty.same _ hO3 hL3 (by repeat (first | with_reducible exact Same.refl _ _ _ | ((with_reducible refine Same.base ?_ ?_) <;> (simp <;> omega)) | ((with_reducible refine Same.more ?_ ?_ _ _); rotate_left; simp <;> omega) | ((with_reducible refine Same.alloc ?_ ?_ _); rotate_left; simp <;> omega) | with_reducible apply Same.drew | with_reducible apply Same.drewN))), hN3, fun b hb => (by have := hL3' b hb; omega)⟩
set_option maxRecDepth 100000 in
theorem szView_l {x : DView} {w : World} {left : Int} {A0 : Option Addr} {c0 : Nat} (h3 : (intT.sl 3).R w w.heap.size [.slice A0 x.Words.length c0] x.Words) (h00 : 0 ≤ left) (h01 : left ≤ 1099511627776) : Calls Tryz.prog 97 #[.agg #[.int .i64 x.Pc, .int .i64 x.Sp, .int .i64 x.Fp, .slice A0 x.Words.length c0], .int .i64 left] w fun e w' => e = .returned (.int .i64 (szRes left (szView x))) ∧ Gro w w' := by
  have HS := Lib.hid (show szView x = x.Words.length from by unfold szView; rfl)
  by_cases c0' : (x.Words.length : Int) ≤ left
  · skip
    have e0 : szRes (left) x.Words.length = left - (x.Words.length : Nat) := if_pos (by omega)
    go_enter Tryz.func97, Tryz.ntmps97
    go_wp2_with (first
      | (go_at_call 150; (with_reducible refine (szIntS_l (xs := x.Words) (Ty.up _ h3 gG) (by omega) (by omega)).mono ?_); rintro e w0 ⟨rfl, os0, d0, rfl⟩))
    go_ret
    exact ⟨ret_int (by rw [HS.out]; unfold szRes; rw [if_pos (by omega)] <;> omega), gG⟩
  · have e0 : szRes (left) x.Words.length = -1 := if_neg (by omega)
    go_enter Tryz.func97, Tryz.ntmps97
    go_wp2_with (first
      | (go_at_call 150; (with_reducible refine (szIntS_l (xs := x.Words) (Ty.up _ h3 gG) (by omega) (by omega)).mono ?_); rintro e w0 ⟨rfl, os0, d0, rfl⟩))
    go_ret
    exact ⟨ret_int (by rw [HS.out]; unfold szRes; rw [if_neg (by omega)]), gG⟩
set_option maxRecDepth 100000 in
theorem eqView_l {x y : DView} {w : World} {A0 : Option Addr} {c0 : Nat} {B0 : Option Addr} {d0 : Nat} (h3 : (intT.sl 3).R w w.heap.size [.slice A0 x.Words.length c0] x.Words) (k3 : (intT.sl 3).R w w.heap.size [.slice B0 y.Words.length d0] y.Words) : Calls Tryz.prog 102 #[.agg #[.int .i64 x.Pc, .int .i64 x.Sp, .int .i64 x.Fp, .slice A0 x.Words.length c0], .agg #[.int .i64 y.Pc, .int .i64 y.Sp, .int .i64 y.Fp, .slice B0 y.Words.length d0]] w fun e w' => e = .returned (.bool (decide (x = y))) ∧ Gro w w' := by
  go_enter Tryz.func102, Tryz.ntmps102
  go_wp2_with (first
      | (go_at_call 157; (with_reducible refine (eqIntS_l (xs := x.Words) (ys := y.Words) (Ty.up _ h3 gG) (Ty.up _ k3 gG)).mono ?_); rintro e w3 ⟨rfl, os3, d3, rfl⟩))
  all_goals
    go_ret
    refine ⟨ret_bool ?_, gG⟩
    simp_all [eq_DView]
def cntView (x : DView) : Nat := x.Words.length
def mkView (x : DView) (k : Int) : DView := { x with Words := mkInts x.Words k }
set_option maxRecDepth 100000 in
theorem markView_l {x : DView} {w : World} {k : Int} {S : List Nat} {A0 : Option Addr} {c0 : Nat} (hO : tView.O w [.int .i64 x.Pc, .int .i64 x.Sp, .int .i64 x.Fp, .slice A0 x.Words.length c0] x S) (hS : S.Nodup) (h00 : 0 < k) (h01 : k + (cntView x : Nat) ≤ 1099511627776) : Calls Tryz.prog 104 #[.agg #[.int .i64 x.Pc, .int .i64 x.Sp, .int .i64 x.Fp, .slice A0 x.Words.length c0], .int .i64 k] w fun e w' => e = .returned (.int .i64 (k + (cntView x : Nat))) ∧ tView.O w' [.int .i64 x.Pc, .int .i64 x.Sp, .int .i64 x.Fp, .slice A0 x.Words.length c0] (mkView x k) S ∧ OnlyS S w w' := by
  obtain ⟨A0', c0', S0, hcl, rfl, h0, h1, h2, h3⟩ := tView_O hO
  simp only [List.cons.injEq, Value.slice.injEq, true_and, and_true] at hcl
  obtain ⟨rfl, rfl⟩ := hcl
  have hlt := Ty.ltO _ hO
  unfold cntView at h01 ⊢
  have hN0 := hS
  have hO0 := h3
  have hL0 := Ty.ltO _ hO0
  go_enter Tryz.func104, Tryz.ntmps104
  go_wp2_with (fail)
  refine (markIntS_l (xs := x.Words) (Ty.groO _ hO0 gG) hN0 (by omega) (by omega)).mono ?_
  rintro e w1 ⟨rfl, hM0, hs1⟩
  go_wp2
  go_ret
  refine ⟨ret_int (by push_cast; omega), ?_, ((Gro.only gG _).trans hs1)⟩
  have h := tView_mkOd (w := w1) (x := mkView x k) (by simpa [mkView] using h0) (by simpa [mkView] using h1) (by simpa [mkView] using h2) (by simpa [mkView, mkInts_length] using hM0)
  simpa [mkView, mkInts_length] using h
def RetSample (x : DSample) (w : World) (r : Ending) (w' : World) : Prop := ∃ A0 c0, r = .returned (.agg #[.int .i64 x.Thread, .int .i64 x.View.Pc, .int .i64 x.View.Sp, .int .i64 x.View.Fp, .slice A0 x.View.Words.length c0]) ∧ Fresh tSample w w' [.int .i64 x.Thread, .int .i64 x.View.Pc, .int .i64 x.View.Sp, .int .i64 x.View.Fp, .slice A0 x.View.Words.length c0] x ∧ Gro w w'
theorem tSample_mkOd {w : World} {x : DSample} {A0 : Option Addr} {c0 : Nat} {S1 : List Nat} (h0 : I64 x.Thread) (h1 : tView.O w [.int .i64 x.View.Pc, .int .i64 x.View.Sp, .int .i64 x.View.Fp, .slice A0 x.View.Words.length c0] x.View S1) : tSample.O w [.int .i64 x.Thread, .int .i64 x.View.Pc, .int .i64 x.View.Sp, .int .i64 x.View.Fp, .slice A0 x.View.Words.length c0] x (S1) := by
  have h : tSample.O w [.int .i64 x.Thread, .int .i64 x.View.Pc, .int .i64 x.View.Sp, .int .i64 x.View.Fp, .slice A0 x.View.Words.length c0] x ([] ++ S1) := ⟨[.int .i64 x.Thread], [.int .i64 x.View.Pc, .int .i64 x.View.Sp, .int .i64 x.View.Fp, .slice A0 x.View.Words.length c0], [], S1, rfl, rfl, ⟨rfl, h0.1, h0.2, rfl⟩, h1⟩
  simpa using h
theorem eq_DSample {x y : DSample} : x = y ↔ x.Thread = y.Thread ∧ x.View = y.View := by
  cases x
  cases y
  simp
def szSample (x : DSample) : Nat := szView x.View
set_option maxRecDepth 100000 in
theorem toSample_l {x : DSample} {w : World} {A0 : Option Addr} {c0 : Nat} (h0 : I64 x.Thread) (h1 : I64 x.View.Pc) (h2 : I64 x.View.Sp) (h3 : I64 x.View.Fp) (h4 : (intT.sl 3).R w w.heap.size [.slice A0 x.View.Words.length c0] x.View.Words) (hn : szSample x ≤ 1099511627776) : Calls Tryz.prog 33 #[.agg #[.int .i64 x.Thread, .int .i64 x.View.Pc, .int .i64 x.View.Sp, .int .i64 x.View.Fp, .slice A0 x.View.Words.length c0]] w (RetSample x w) := by
  unfold szSample at hn
  go_enter Tryz.func33, Tryz.ntmps33
  go_wp2_with (first
      | (go_at_call 99; (with_reducible refine (toView_l (x := x.View) h1 h2 h3 (Ty.up _ h4 gG) (by omega)).mono ?_); rintro e w1 ⟨B0, d0, rfl, hF1, os1, dd1, rfl⟩))
  refine bodyPost_ret (v := .agg #[.int .i64 x.Thread, .int .i64 x.View.Pc, .int .i64 x.View.Sp, .int .i64 x.View.Fp, .slice B0 x.View.Words.length d0]) (by simp [results, Tryz.results33, go_sem]) rfl ⟨B0, d0, rfl, ?_, gG⟩
  obtain ⟨S1, hO1, hN1, hL1⟩ := hF1
  have hU1 := Ty.ltO _ hO1
  have hL1' := hL1
  simp at hL1' hU1
  exact ⟨_, tSample_mkOd h0 (Ty.same _ hO1 hL1 (by repeat (first | with_reducible exact Same.refl _ _ _ | ((with_reducible refine Same.base ?_ ?_) <;> (simp <;> omega)) | ((with_reducible refine Same.more ?_ ?_ _ _); rotate_left; simp <;> omega) | ((with_reducible refine Same.alloc ?_ ?_ _); rotate_left; simp <;> omega) | with_reducible apply Same.drew | with_reducible apply Same.drewN))), hN1, fun b hb => (by have := hL1' b hb; omega)⟩
set_option maxRecDepth 100000 in
theorem szSample_l {x : DSample} {w : World} {left : Int} {A0 : Option Addr} {c0 : Nat} (h4 : (intT.sl 3).R w w.heap.size [.slice A0 x.View.Words.length c0] x.View.Words) (h00 : 0 ≤ left) (h01 : left ≤ 1099511627776) : Calls Tryz.prog 30 #[.agg #[.int .i64 x.Thread, .int .i64 x.View.Pc, .int .i64 x.View.Sp, .int .i64 x.View.Fp, .slice A0 x.View.Words.length c0], .int .i64 left] w fun e w' => e = .returned (.int .i64 (szRes left (szSample x))) ∧ Gro w w' := by
  obtain ⟨n0, hn0⟩ : ∃ n, szView x.View = n := ⟨_, rfl⟩
  have HS := Lib.hid (show szSample x = n0 from by unfold szSample; rw [hn0])
  have HN0 := Lib.hid hn0
  clear hn0
  by_cases c0' : (n0 : Int) ≤ left
  · skip
    have e0 : szRes (left) n0 = left - (n0 : Nat) := if_pos (by omega)
    go_enter Tryz.func30, Tryz.ntmps30
    go_wp2_with (first
      | (go_at_call 97; (with_reducible refine (szView_l (x := x.View) (Ty.up _ h4 gG) (by omega) (by omega)).mono ?_); rintro e w0 ⟨rfl, os0, d0, rfl⟩; rw [HN0.out]))
    go_ret
    exact ⟨ret_int (by rw [HS.out]; unfold szRes; rw [if_pos (by omega)] <;> omega), gG⟩
  · have e0 : szRes (left) n0 = -1 := if_neg (by omega)
    go_enter Tryz.func30, Tryz.ntmps30
    go_wp2_with (first
      | (go_at_call 97; (with_reducible refine (szView_l (x := x.View) (Ty.up _ h4 gG) (by omega) (by omega)).mono ?_); rintro e w0 ⟨rfl, os0, d0, rfl⟩; rw [HN0.out]))
    go_ret
    exact ⟨ret_int (by rw [HS.out]; unfold szRes; rw [if_neg (by omega)]), gG⟩
set_option maxRecDepth 100000 in
theorem eqSample_l {x y : DSample} {w : World} {A0 : Option Addr} {c0 : Nat} {B0 : Option Addr} {d0 : Nat} (h4 : (intT.sl 3).R w w.heap.size [.slice A0 x.View.Words.length c0] x.View.Words) (k4 : (intT.sl 3).R w w.heap.size [.slice B0 y.View.Words.length d0] y.View.Words) : Calls Tryz.prog 36 #[.agg #[.int .i64 x.Thread, .int .i64 x.View.Pc, .int .i64 x.View.Sp, .int .i64 x.View.Fp, .slice A0 x.View.Words.length c0], .agg #[.int .i64 y.Thread, .int .i64 y.View.Pc, .int .i64 y.View.Sp, .int .i64 y.View.Fp, .slice B0 y.View.Words.length d0]] w fun e w' => e = .returned (.bool (decide (x = y))) ∧ Gro w w' := by
  go_enter Tryz.func36, Tryz.ntmps36
  go_wp2_with (first
      | (go_at_call 102; (with_reducible refine (eqView_l (x := x.View) (y := y.View) (Ty.up _ h4 gG) (Ty.up _ k4 gG)).mono ?_); rintro e w1 ⟨rfl, os1, d1, rfl⟩))
  all_goals
    go_ret
    refine ⟨ret_bool ?_, gG⟩
    simp_all [eq_DSample]
def cntSample (x : DSample) : Nat := cntView x.View
def mkSample (x : DSample) (k : Int) : DSample := { x with View := mkView x.View k }
set_option maxRecDepth 100000 in
theorem markSample_l {x : DSample} {w : World} {k : Int} {S : List Nat} {A0 : Option Addr} {c0 : Nat} (hO : tSample.O w [.int .i64 x.Thread, .int .i64 x.View.Pc, .int .i64 x.View.Sp, .int .i64 x.View.Fp, .slice A0 x.View.Words.length c0] x S) (hS : S.Nodup) (h00 : 0 < k) (h01 : k + (cntSample x : Nat) ≤ 1099511627776) : Calls Tryz.prog 38 #[.agg #[.int .i64 x.Thread, .int .i64 x.View.Pc, .int .i64 x.View.Sp, .int .i64 x.View.Fp, .slice A0 x.View.Words.length c0], .int .i64 k] w fun e w' => e = .returned (.int .i64 (k + (cntSample x : Nat))) ∧ tSample.O w' [.int .i64 x.Thread, .int .i64 x.View.Pc, .int .i64 x.View.Sp, .int .i64 x.View.Fp, .slice A0 x.View.Words.length c0] (mkSample x k) S ∧ OnlyS S w w' := by
  obtain ⟨A0', c0', S0, hcl, rfl, h0, h1, h2, h3, h4⟩ := tSample_O hO
  simp only [List.cons.injEq, Value.slice.injEq, true_and, and_true] at hcl
  obtain ⟨rfl, rfl⟩ := hcl
  have hlt := Ty.ltO _ hO
  unfold cntSample at h01 ⊢
  have hN0 := hS
  have hO0 := (tView_mkO A0 c0 _ h1 h2 h3 h4)
  have hL0 := Ty.ltO _ hO0
  go_enter Tryz.func38, Tryz.ntmps38
  go_wp2_with (fail)
  refine (markView_l (x := x.View) (Ty.groO _ hO0 gG) hN0 (by omega) (by omega)).mono ?_
  rintro e w1 ⟨rfl, hM0, hs1⟩
  go_wp2
  go_ret
  refine ⟨ret_int (by push_cast; omega), ?_, ((Gro.only gG _).trans hs1)⟩
  have h := tSample_mkOd (w := w1) (x := mkSample x k) (by simpa [mkSample] using h0) (by simpa [mkSample, mkView, mkInts_length] using hM0)
  simpa [mkSample, mkView, mkInts_length] using h
end Go.Proofs.YtgodpjnbhmahaaaGreat
namespace Go.Proofs.YtgodpjnbhmahaaaGreat
open Go.RowKit
theorem allT_succ {α : Type} {xs : List α} {f : α → Bool} {j : Nat} {x : α} (h : xs[j]? = some x) (ha : (xs.take j).all f = true) (hf : f x = true) : (xs.take (j + 1)).all f = true := by
  rw [take_snoc h, List.all_append, ha]
  simp [hf]
theorem allT_false {α : Type} {xs : List α} {f : α → Bool} {j : Nat} {x : α} (h : xs[j]? = some x) (hf : f x = false) : xs.all f = false := by
  rw [List.all_eq_false]
  exact ⟨x, List.mem_of_getElem? h, by simp [hf]⟩
def signless (n : Int) : Int := if btw n (-549755813888) 549755813887 then (if n < 0 then -2 * n - 1 else 2 * n) else -1
theorem signless_neg (n : Int) : decide (signless n < 0) = !btw n (-549755813888) 549755813887 := by
  unfold signless
  cases h : btw n (-549755813888) 549755813887
  · simp
  · rw [if_pos rfl]; split <;> simp <;> omega
theorem signless_i (n : Int) (w : World) : Calls Tryz.prog 112 #[.int .i64 n] w fun e w' => e = .returned (.int .i64 (signless n)) ∧ w = w' := by
  cases hb : btw n (-549755813888) 549755813887
  · have HS := Lib.hid (show signless n = -1 from by simp [signless, hb])
    go_enter Tryz.func112, Tryz.ntmps112
    go_wp2_with (first
      | (go_at_call 73; (with_reducible refine (in_i _ _ _ _).mono ?_); rintro e w1 ⟨rfl, rfl⟩))
    go_ret
    exact ⟨ret_int HS.out.symm, rfl⟩
  · obtain ⟨hb1, hb2⟩ := btw_iff.1 hb
    have HS := Lib.hid (show signless n = (if n < 0 then -2 * n - 1 else 2 * n) from by simp [signless, hb])
    by_cases hn : n < 0
    · have HT := Lib.hid (HS.out.trans (if_pos hn))
      go_enter Tryz.func112, Tryz.ntmps112
      go_wp2_with (first
        | (go_at_call 73; (with_reducible refine (in_i _ _ _ _).mono ?_); rintro e w1 ⟨rfl, rfl⟩))
      go_ret
      exact ⟨ret_int HT.out.symm, rfl⟩
    · have HT := Lib.hid (HS.out.trans (if_neg hn))
      go_enter Tryz.func112, Tryz.ntmps112
      go_wp2_with (first
        | (go_at_call 73; (with_reducible refine (in_i _ _ _ _).mono ?_); rintro e w1 ⟨rfl, rfl⟩))
      go_ret
      exact ⟨ret_int HT.out.symm, rfl⟩
theorem signless_s (n : Int) (w : World) : Calls Tryz.prog 179 #[.int .i64 n] w fun e w' => e = .returned (.int .i64 (signless n)) ∧ w = w' := by
  cases hb : btw n (-549755813888) 549755813887
  · have HS := Lib.hid (show signless n = -1 from by simp [signless, hb])
    go_enter Tryz.func179, Tryz.ntmps179
    go_wp2_with (first
      | (go_at_call 78; (with_reducible refine (in_s _ _ _ _).mono ?_); rintro e w1 ⟨rfl, rfl⟩))
    go_ret
    exact ⟨ret_int HS.out.symm, rfl⟩
  · obtain ⟨hb1, hb2⟩ := btw_iff.1 hb
    have HS := Lib.hid (show signless n = (if n < 0 then -2 * n - 1 else 2 * n) from by simp [signless, hb])
    by_cases hn : n < 0
    · have HT := Lib.hid (HS.out.trans (if_pos hn))
      go_enter Tryz.func179, Tryz.ntmps179
      go_wp2_with (first
        | (go_at_call 78; (with_reducible refine (in_s _ _ _ _).mono ?_); rintro e w1 ⟨rfl, rfl⟩))
      go_ret
      exact ⟨ret_int HT.out.symm, rfl⟩
    · have HT := Lib.hid (HS.out.trans (if_neg hn))
      go_enter Tryz.func179, Tryz.ntmps179
      go_wp2_with (first
        | (go_at_call 78; (with_reducible refine (in_s _ _ _ _).mono ?_); rintro e w1 ⟨rfl, rfl⟩))
      go_ret
      exact ⟨ret_int HT.out.symm, rfl⟩
def viewOk (v : DView) : Bool := btw v.Sp 0 1200 && decide ((v.Words.length : Int) ≤ 1200 - v.Sp)
theorem viewOk_i (v : DView) (A : Option Addr) (c : Nat) (w : World) (_ : v.Words.length ≤ 1099511627776) : Calls Tryz.prog 111 #[.agg #[.int .i64 v.Pc, .int .i64 v.Sp, .int .i64 v.Fp, .slice A v.Words.length c]] w fun e w' => e = .returned (.bool (viewOk v)) ∧ Gro w w' := by
  cases hb : btw v.Sp 0 1200
  · have HS := Lib.hid (show viewOk v = false from by simp [viewOk, hb])
    go_enter Tryz.func111, Tryz.ntmps111
    go_wp2_with (first
      | (go_at_call 73; (with_reducible refine (in_i _ _ _ _).mono ?_); rintro e w1 ⟨rfl, rfl⟩))
    go_ret
    exact ⟨ret_bool HS.out.symm, gG⟩
  · obtain ⟨hb1, hb2⟩ := btw_iff.1 hb
    have HS := Lib.hid (show viewOk v = decide ((v.Words.length : Int) ≤ 1200 - v.Sp) from by simp [viewOk, hb])
    go_enter Tryz.func111, Tryz.ntmps111
    go_wp2_with (first
      | (go_at_call 73; (with_reducible refine (in_i _ _ _ _).mono ?_); rintro e w1 ⟨rfl, rfl⟩))
    go_ret
    exact ⟨ret_bool HS.out.symm, gG⟩
theorem viewOk_s (v : DView) (A : Option Addr) (c : Nat) (w : World) (_ : v.Words.length ≤ 1099511627776) : Calls Tryz.prog 178 #[.agg #[.int .i64 v.Pc, .int .i64 v.Sp, .int .i64 v.Fp, .slice A v.Words.length c]] w fun e w' => e = .returned (.bool (viewOk v)) ∧ Gro w w' := by
  cases hb : btw v.Sp 0 1200
  · have HS := Lib.hid (show viewOk v = false from by simp [viewOk, hb])
    go_enter Tryz.func178, Tryz.ntmps178
    go_wp2_with (first
      | (go_at_call 78; (with_reducible refine (in_s _ _ _ _).mono ?_); rintro e w1 ⟨rfl, rfl⟩))
    go_ret
    exact ⟨ret_bool HS.out.symm, gG⟩
  · obtain ⟨hb1, hb2⟩ := btw_iff.1 hb
    have HS := Lib.hid (show viewOk v = decide ((v.Words.length : Int) ≤ 1200 - v.Sp) from by simp [viewOk, hb])
    go_enter Tryz.func178, Tryz.ntmps178
    go_wp2_with (first
      | (go_at_call 78; (with_reducible refine (in_s _ _ _ _).mono ?_); rintro e w1 ⟨rfl, rfl⟩))
    go_ret
    exact ⟨ret_bool HS.out.symm, gG⟩
def sampleOk (x : DSample) : Bool := btw x.Thread 0 2 && (viewOk x.View && (btw x.View.Pc 0 2000000 && (btw x.View.Fp (-549755813888) 549755813887 && x.View.Words.all fun n => btw n (-549755813888) 549755813887)))
set_option maxRecDepth 100000 in
theorem sampleOk_i {x : DSample} {w : World} {A0 : Option Addr} {c0 : Nat} (h1 : (intT.sl 3).R w w.heap.size [.slice A0 x.View.Words.length c0] x.View.Words) (hs : x.View.Words.length ≤ 1099511627776) :
    Calls Tryz.prog 48 #[.agg #[.int .i64 x.Thread, .int .i64 x.View.Pc, .int .i64 x.View.Sp, .int .i64 x.View.Fp, .slice A0 x.View.Words.length c0]] w fun e w' => e = .returned (.bool (sampleOk x)) ∧ Gro w w' := by
  obtain ⟨th, v⟩ := x
  obtain ⟨Pc, Sp, Fp, rs⟩ := v
  simp only at h1 hs ⊢
  cases b1 : btw th 0 2
  · have HS := Lib.hid (show sampleOk ⟨th, ⟨Pc, Sp, Fp, rs⟩⟩ = false from by simp [sampleOk, b1])
    go_enter Tryz.func48, Tryz.ntmps48
    go_wp2_with (first
      | (go_at_call 73; (with_reducible refine (in_i _ _ _ _).mono ?_); rintro e w1 ⟨rfl, rfl⟩)
      | (go_at_call 111; (with_reducible refine (viewOk_i ⟨Pc, Sp, Fp, rs⟩ _ _ _ hs).mono ?_); rintro e w1 ⟨rfl, os, d, rfl⟩)
      | (go_at_call 112; (with_reducible refine (signless_i _ _).mono ?_); rintro e w1 ⟨rfl, rfl⟩))
    go_ret
    exact ⟨ret_bool HS.out.symm, gG⟩
  cases b2 : viewOk ⟨Pc, Sp, Fp, rs⟩
  · have HS := Lib.hid (show sampleOk ⟨th, ⟨Pc, Sp, Fp, rs⟩⟩ = false from by simp [sampleOk, b2])
    go_enter Tryz.func48, Tryz.ntmps48
    go_wp2_with (first
      | (go_at_call 73; (with_reducible refine (in_i _ _ _ _).mono ?_); rintro e w1 ⟨rfl, rfl⟩)
      | (go_at_call 111; (with_reducible refine (viewOk_i ⟨Pc, Sp, Fp, rs⟩ _ _ _ hs).mono ?_); rintro e w1 ⟨rfl, os, d, rfl⟩)
      | (go_at_call 112; (with_reducible refine (signless_i _ _).mono ?_); rintro e w1 ⟨rfl, rfl⟩))
    go_ret
    exact ⟨ret_bool HS.out.symm, gG⟩
  cases b3 : btw Pc 0 2000000
  · have HS := Lib.hid (show sampleOk ⟨th, ⟨Pc, Sp, Fp, rs⟩⟩ = false from by simp [sampleOk, b3])
    go_enter Tryz.func48, Tryz.ntmps48
    go_wp2_with (first
      | (go_at_call 73; (with_reducible refine (in_i _ _ _ _).mono ?_); rintro e w1 ⟨rfl, rfl⟩)
      | (go_at_call 111; (with_reducible refine (viewOk_i ⟨Pc, Sp, Fp, rs⟩ _ _ _ hs).mono ?_); rintro e w1 ⟨rfl, os, d, rfl⟩)
      | (go_at_call 112; (with_reducible refine (signless_i _ _).mono ?_); rintro e w1 ⟨rfl, rfl⟩))
    go_ret
    exact ⟨ret_bool HS.out.symm, gG⟩
  cases b4 : btw Fp (-549755813888) 549755813887
  · have HS := Lib.hid (show sampleOk ⟨th, ⟨Pc, Sp, Fp, rs⟩⟩ = false from by simp [sampleOk, b4])
    have b5 : decide (signless Fp < 0) = true := by rw [signless_neg, b4]; rfl
    go_enter Tryz.func48, Tryz.ntmps48
    go_wp2_with (first
      | (go_at_call 73; (with_reducible refine (in_i _ _ _ _).mono ?_); rintro e w1 ⟨rfl, rfl⟩)
      | (go_at_call 111; (with_reducible refine (viewOk_i ⟨Pc, Sp, Fp, rs⟩ _ _ _ hs).mono ?_); rintro e w1 ⟨rfl, os, d, rfl⟩)
      | (go_at_call 112; (with_reducible refine (signless_i _ _).mono ?_); rintro e w1 ⟨rfl, rfl⟩))
    go_ret
    exact ⟨ret_bool HS.out.symm, gG⟩
  have HR : Hid (sampleOk ⟨th, ⟨Pc, Sp, Fp, rs⟩⟩ = rs.all fun n => btw n (-549755813888) 549755813887) := by
    show sampleOk _ = _
    simp [sampleOk, b1, b2, b3, b4]
  have b5 : decide (signless Fp < 0) = false := by rw [signless_neg, b4]; rfl
  go_enter Tryz.func48, Tryz.ntmps48
  go_wp2_with (first
      | (go_at_call 73; (with_reducible refine (in_i _ _ _ _).mono ?_); rintro e w1 ⟨rfl, rfl⟩)
      | (go_at_call 111; (with_reducible refine (viewOk_i ⟨Pc, Sp, Fp, rs⟩ _ _ _ hs).mono ?_); rintro e w1 ⟨rfl, os, d, rfl⟩)
      | (go_at_call 112; (with_reducible refine (signless_i _ _).mono ?_); rintro e w1 ⟨rfl, rfl⟩))
  obtain ⟨_, _, hv, h2, h3⟩ := sl_at h1
  injection hv with hA hn hc
  subst hA hc
  clear hn
  go_loop [33] (fun i => ∃ (j : Nat), j ≤ rs.length ∧ i = .int .i64 j ∧ Hid ((rs.take j).all (fun n => btw n (-549755813888) 549755813887) = true)) (fun i => rs.length - (intOf i).toNat)
  case atStart => exact ⟨0, Nat.zero_le _, rfl, rfl⟩
  case round =>
    obtain ⟨j, hj, rfl, ha⟩ := hrel
    by_cases hlt : j < rs.length
    · obtain ⟨g, off, x, rfl, hxk, hcx, bx⟩ := ints_at h1 hlt
      have hgb := World.block_lt_of_cell? _ _ hcx
      simp only at hgb
      have HX := Lib.hid hxk
      have H1 := Lib.hid h1
      clear hxk h1
      cases hb : btw x (-549755813888) 549755813887
      · have HF := Lib.hid (allT_false (f := fun n : Int => btw n (-549755813888) 549755813887) HX.out hb)
        have b6 : decide (signless x < 0) = true := by rw [signless_neg, hb]; rfl
        go_wp2_with (first
      | (go_at_call 73; (with_reducible refine (in_i _ _ _ _).mono ?_); rintro e w1 ⟨rfl, rfl⟩)
      | (go_at_call 111; (with_reducible refine (viewOk_i ⟨Pc, Sp, Fp, rs⟩ _ _ _ hs).mono ?_); rintro e w1 ⟨rfl, os, d, rfl⟩)
      | (go_at_call 112; (with_reducible refine (signless_i _ _).mono ?_); rintro e w1 ⟨rfl, rfl⟩))
        go_ret
        exact ⟨ret_bool (HR.out.trans HF.out).symm, gG⟩
      · have b6 : decide (signless x < 0) = false := by rw [signless_neg, hb]; rfl
        go_wp2_with (first
      | (go_at_call 73; (with_reducible refine (in_i _ _ _ _).mono ?_); rintro e w1 ⟨rfl, rfl⟩)
      | (go_at_call 111; (with_reducible refine (viewOk_i ⟨Pc, Sp, Fp, rs⟩ _ _ _ hs).mono ?_); rintro e w1 ⟨rfl, os, d, rfl⟩)
      | (go_at_call 112; (with_reducible refine (signless_i _ _).mono ?_); rintro e w1 ⟨rfl, rfl⟩))
        go_round
        case rel => exact ⟨j + 1, by omega, by go_num, allT_succ HX.out ha.out hb⟩
        case measure => simp [intOf]; omega
    · have hje : j = rs.length := by omega
      subst hje
      rw [List.take_length] at ha
      go_wp2_with (first
      | (go_at_call 73; (with_reducible refine (in_i _ _ _ _).mono ?_); rintro e w1 ⟨rfl, rfl⟩)
      | (go_at_call 111; (with_reducible refine (viewOk_i ⟨Pc, Sp, Fp, rs⟩ _ _ _ hs).mono ?_); rintro e w1 ⟨rfl, os, d, rfl⟩)
      | (go_at_call 112; (with_reducible refine (signless_i _ _).mono ?_); rintro e w1 ⟨rfl, rfl⟩))
      go_ret
      exact ⟨ret_bool (HR.out.trans ha.out).symm, gG⟩
set_option maxRecDepth 100000 in
theorem sampleOk_s {x : DSample} {w : World} {A0 : Option Addr} {c0 : Nat} (h1 : (intT.sl 3).R w w.heap.size [.slice A0 x.View.Words.length c0] x.View.Words) (hs : x.View.Words.length ≤ 1099511627776) :
    Calls Tryz.prog 86 #[.agg #[.int .i64 x.Thread, .int .i64 x.View.Pc, .int .i64 x.View.Sp, .int .i64 x.View.Fp, .slice A0 x.View.Words.length c0]] w fun e w' => e = .returned (.bool (sampleOk x)) ∧ Gro w w' := by
  obtain ⟨th, v⟩ := x
  obtain ⟨Pc, Sp, Fp, rs⟩ := v
  simp only at h1 hs ⊢
  cases b1 : btw th 0 2
  · have HS := Lib.hid (show sampleOk ⟨th, ⟨Pc, Sp, Fp, rs⟩⟩ = false from by simp [sampleOk, b1])
    go_enter Tryz.func86, Tryz.ntmps86
    go_wp2_with (first
      | (go_at_call 78; (with_reducible refine (in_s _ _ _ _).mono ?_); rintro e w1 ⟨rfl, rfl⟩)
      | (go_at_call 178; (with_reducible refine (viewOk_s ⟨Pc, Sp, Fp, rs⟩ _ _ _ hs).mono ?_); rintro e w1 ⟨rfl, os, d, rfl⟩)
      | (go_at_call 179; (with_reducible refine (signless_s _ _).mono ?_); rintro e w1 ⟨rfl, rfl⟩))
    go_ret
    exact ⟨ret_bool HS.out.symm, gG⟩
  cases b2 : viewOk ⟨Pc, Sp, Fp, rs⟩
  · have HS := Lib.hid (show sampleOk ⟨th, ⟨Pc, Sp, Fp, rs⟩⟩ = false from by simp [sampleOk, b2])
    go_enter Tryz.func86, Tryz.ntmps86
    go_wp2_with (first
      | (go_at_call 78; (with_reducible refine (in_s _ _ _ _).mono ?_); rintro e w1 ⟨rfl, rfl⟩)
      | (go_at_call 178; (with_reducible refine (viewOk_s ⟨Pc, Sp, Fp, rs⟩ _ _ _ hs).mono ?_); rintro e w1 ⟨rfl, os, d, rfl⟩)
      | (go_at_call 179; (with_reducible refine (signless_s _ _).mono ?_); rintro e w1 ⟨rfl, rfl⟩))
    go_ret
    exact ⟨ret_bool HS.out.symm, gG⟩
  cases b3 : btw Pc 0 2000000
  · have HS := Lib.hid (show sampleOk ⟨th, ⟨Pc, Sp, Fp, rs⟩⟩ = false from by simp [sampleOk, b3])
    go_enter Tryz.func86, Tryz.ntmps86
    go_wp2_with (first
      | (go_at_call 78; (with_reducible refine (in_s _ _ _ _).mono ?_); rintro e w1 ⟨rfl, rfl⟩)
      | (go_at_call 178; (with_reducible refine (viewOk_s ⟨Pc, Sp, Fp, rs⟩ _ _ _ hs).mono ?_); rintro e w1 ⟨rfl, os, d, rfl⟩)
      | (go_at_call 179; (with_reducible refine (signless_s _ _).mono ?_); rintro e w1 ⟨rfl, rfl⟩))
    go_ret
    exact ⟨ret_bool HS.out.symm, gG⟩
  cases b4 : btw Fp (-549755813888) 549755813887
  · have HS := Lib.hid (show sampleOk ⟨th, ⟨Pc, Sp, Fp, rs⟩⟩ = false from by simp [sampleOk, b4])
    have b5 : decide (signless Fp < 0) = true := by rw [signless_neg, b4]; rfl
    go_enter Tryz.func86, Tryz.ntmps86
    go_wp2_with (first
      | (go_at_call 78; (with_reducible refine (in_s _ _ _ _).mono ?_); rintro e w1 ⟨rfl, rfl⟩)
      | (go_at_call 178; (with_reducible refine (viewOk_s ⟨Pc, Sp, Fp, rs⟩ _ _ _ hs).mono ?_); rintro e w1 ⟨rfl, os, d, rfl⟩)
      | (go_at_call 179; (with_reducible refine (signless_s _ _).mono ?_); rintro e w1 ⟨rfl, rfl⟩))
    go_ret
    exact ⟨ret_bool HS.out.symm, gG⟩
  have HR : Hid (sampleOk ⟨th, ⟨Pc, Sp, Fp, rs⟩⟩ = rs.all fun n => btw n (-549755813888) 549755813887) := by
    show sampleOk _ = _
    simp [sampleOk, b1, b2, b3, b4]
  have b5 : decide (signless Fp < 0) = false := by rw [signless_neg, b4]; rfl
  go_enter Tryz.func86, Tryz.ntmps86
  go_wp2_with (first
      | (go_at_call 78; (with_reducible refine (in_s _ _ _ _).mono ?_); rintro e w1 ⟨rfl, rfl⟩)
      | (go_at_call 178; (with_reducible refine (viewOk_s ⟨Pc, Sp, Fp, rs⟩ _ _ _ hs).mono ?_); rintro e w1 ⟨rfl, os, d, rfl⟩)
      | (go_at_call 179; (with_reducible refine (signless_s _ _).mono ?_); rintro e w1 ⟨rfl, rfl⟩))
  obtain ⟨_, _, hv, h2, h3⟩ := sl_at h1
  injection hv with hA hn hc
  subst hA hc
  clear hn
  go_loop [3] (fun i => ∃ (j : Nat), j ≤ rs.length ∧ i = .int .i64 j ∧ Hid ((rs.take j).all (fun n => btw n (-549755813888) 549755813887) = true)) (fun i => rs.length - (intOf i).toNat)
  case atStart => exact ⟨0, Nat.zero_le _, rfl, rfl⟩
  case round =>
    obtain ⟨j, hj, rfl, ha⟩ := hrel
    by_cases hlt : j < rs.length
    · obtain ⟨g, off, x, rfl, hxk, hcx, bx⟩ := ints_at h1 hlt
      have hgb := World.block_lt_of_cell? _ _ hcx
      simp only at hgb
      have HX := Lib.hid hxk
      have H1 := Lib.hid h1
      clear hxk h1
      cases hb : btw x (-549755813888) 549755813887
      · have HF := Lib.hid (allT_false (f := fun n : Int => btw n (-549755813888) 549755813887) HX.out hb)
        have b6 : decide (signless x < 0) = true := by rw [signless_neg, hb]; rfl
        go_wp2_with (first
      | (go_at_call 78; (with_reducible refine (in_s _ _ _ _).mono ?_); rintro e w1 ⟨rfl, rfl⟩)
      | (go_at_call 178; (with_reducible refine (viewOk_s ⟨Pc, Sp, Fp, rs⟩ _ _ _ hs).mono ?_); rintro e w1 ⟨rfl, os, d, rfl⟩)
      | (go_at_call 179; (with_reducible refine (signless_s _ _).mono ?_); rintro e w1 ⟨rfl, rfl⟩))
        go_ret
        exact ⟨ret_bool (HR.out.trans HF.out).symm, gG⟩
      · have b6 : decide (signless x < 0) = false := by rw [signless_neg, hb]; rfl
        go_wp2_with (first
      | (go_at_call 78; (with_reducible refine (in_s _ _ _ _).mono ?_); rintro e w1 ⟨rfl, rfl⟩)
      | (go_at_call 178; (with_reducible refine (viewOk_s ⟨Pc, Sp, Fp, rs⟩ _ _ _ hs).mono ?_); rintro e w1 ⟨rfl, os, d, rfl⟩)
      | (go_at_call 179; (with_reducible refine (signless_s _ _).mono ?_); rintro e w1 ⟨rfl, rfl⟩))
        go_round
        case rel => exact ⟨j + 1, by omega, by go_num, allT_succ HX.out ha.out hb⟩
        case measure => simp [intOf]; omega
    · have hje : j = rs.length := by omega
      subst hje
      rw [List.take_length] at ha
      go_wp2_with (first
      | (go_at_call 78; (with_reducible refine (in_s _ _ _ _).mono ?_); rintro e w1 ⟨rfl, rfl⟩)
      | (go_at_call 178; (with_reducible refine (viewOk_s ⟨Pc, Sp, Fp, rs⟩ _ _ _ hs).mono ?_); rintro e w1 ⟨rfl, os, d, rfl⟩)
      | (go_at_call 179; (with_reducible refine (signless_s _ _).mono ?_); rintro e w1 ⟨rfl, rfl⟩))
      go_ret
      exact ⟨ret_bool (HR.out.trans ha.out).symm, gG⟩
end Go.Proofs.YtgodpjnbhmahaaaGreat
namespace Go.Proofs.YtgodpjnbhmahaaaGreat
open Go.RowKit
def wordOf (v : DView) (a : Int) : Option Int := if btw a v.Sp (v.Sp + v.Words.length - 1) = true then v.Words[(a - v.Sp).toNat]? else none
theorem wordOf_cases (v : DView) (a : Int) : (btw a v.Sp (v.Sp + v.Words.length - 1) = false ∧ wordOf v a = none) ∨ ∃ (j : Nat) (x : Int), a = v.Sp + (j : Int) ∧ j < v.Words.length ∧ v.Words[j]? = some x ∧ btw a v.Sp (v.Sp + v.Words.length - 1) = true ∧ wordOf v a = some x := by
  cases hb : btw a v.Sp (v.Sp + v.Words.length - 1) with
  | false => exact .inl ⟨rfl, by unfold wordOf; rw [hb]; rfl⟩
  | true =>
    have h := btw_iff.1 hb
    obtain ⟨j, hj⟩ : ∃ j : Nat, (a - v.Sp).toNat = j := ⟨_, rfl⟩
    have h1 : j < v.Words.length := by omega
    refine .inr ⟨j, v.Words[j], by omega, h1, List.getElem?_eq_getElem h1, rfl, ?_⟩
    unfold wordOf
    rw [hb, hj, List.getElem?_eq_getElem h1]
    rfl
def unwTo (v : DView) (pc sp fp : Int) : DView := ⟨pc, sp, fp, v.Words.drop (sp - v.Sp).toNat⟩
def unwBy (v : DView) (r : DRule) : Option DView :=
  if r.Frame = true then
    match wordOf v v.Fp with
    | none => none
    | some f => match wordOf v (v.Fp + 1) with
      | none => none
      | some pc => some (unwTo v pc (v.Fp + 2) f)
  else match wordOf v (v.Sp + r.Depth) with
    | none => none
    | some pc => some (unwTo v pc (v.Sp + r.Depth + 1) v.Fp)
def rulesI (R0 R1 : List DRule) (i : Int) : List DRule := if i = 0 then R0 else R1
def unwStep (s : DSpace) (R0 R1 : List DRule) (v : DView) (inner : Bool) : Option DView :=
  let q := loc s (if inner = true then v.Pc else v.Pc - 1)
  if q.1 < 0 then none else
    match (rulesI R0 R1 q.1)[(findRule (rulesI R0 R1 q.1) q.2).toNat]? with
    | none => none
    | some r => if findRule (rulesI R0 R1 q.1) q.2 < 0 then none else unwBy v r
def Small (x : Int) : Prop := -549755813888 ≤ x ∧ x ≤ 549755813887
def viewIn (v : DView) : Prop := viewOk v = true ∧ Small v.Pc ∧ Small v.Fp ∧ ∀ x ∈ v.Words, Small x
theorem viewIn.sp {v : DView} (h : viewIn v) : 0 ≤ v.Sp ∧ v.Sp ≤ 1200 ∧ (v.Words.length : Int) ≤ 1200 - v.Sp := by
  have h1 := h.1
  simp only [viewOk, Bool.and_eq_true, decide_eq_true_eq] at h1
  have h2 := btw_iff.1 h1.1
  omega
theorem unwTo_in {v : DView} (h : viewIn v) {pc sp fp : Int} (hp : Small pc) (hf : Small fp) (h1 : v.Sp ≤ sp) (h2 : sp ≤ v.Sp + v.Words.length) : viewIn (unwTo v pc sp fp) := by
  have hs := h.sp
  refine ⟨?_, hp, hf, fun x hx => h.2.2.2 x (List.mem_of_mem_drop hx)⟩
  simp only [viewOk, unwTo, Bool.and_eq_true, decide_eq_true_eq, List.length_drop]
  exact ⟨btw_iff.2 (by omega), by omega⟩
theorem unwBy_in {v v' : DView} {r : DRule} (h : viewIn v) (hr : unwBy v r = some v') : viewIn v' := by
  unfold unwBy at hr
  split at hr
  · rcases wordOf_cases v v.Fp with ⟨_, e⟩ | ⟨j, x, e1, e2, e3, _, e⟩
    · rw [e] at hr
      cases hr
    rw [e] at hr
    simp only at hr
    rcases wordOf_cases v (v.Fp + 1) with ⟨_, f⟩ | ⟨j', x', f1, f2, f3, _, f⟩
    · rw [f] at hr
      cases hr
    rw [f] at hr
    simp only [Option.some.injEq] at hr
    subst hr
    exact unwTo_in h (h.2.2.2 _ (List.mem_of_getElem? f3)) (h.2.2.2 _ (List.mem_of_getElem? e3)) (by omega) (by omega)
  · rcases wordOf_cases v (v.Sp + r.Depth) with ⟨_, e⟩ | ⟨j, x, e1, e2, e3, _, e⟩
    · rw [e] at hr
      cases hr
    rw [e] at hr
    simp only [Option.some.injEq] at hr
    subst hr
    exact unwTo_in h (h.2.2.2 _ (List.mem_of_getElem? e3)) h.2.2.1 (by omega) (by omega)
theorem ruleAt_res : ∀ (rs : List DRule) (off : Int) (k : Nat) (last : Int), rulesG last rs = true → ruleAt rs off k = -1 ∨ ∃ (j : Nat) (r : DRule), rs[j]? = some r ∧ btw r.Depth 0 1200 = true ∧ ruleAt rs off k = ((k + j : Nat) : Int)
  | [], off, k, last, _ => .inl rfl
  | r :: rs, off, k, last, h => by
    simp only [rulesG, Bool.and_eq_true] at h
    by_cases hq : r.Start ≤ off ∧ off < r.End
    · refine .inr ⟨0, r, rfl, (rule1_iff.1 h.1).2.2.2.1, ?_⟩
      unfold ruleAt
      rw [if_pos hq]
      rfl
    · have hs : ruleAt (r :: rs) off k = ruleAt rs off (k + 1) := by rw [ruleAt, if_neg hq]
      rcases ruleAt_res rs off (k + 1) r.End h.2 with h1 | ⟨j, x, h1, h2, h3⟩
      · exact .inl (hs.trans h1)
      · exact .inr ⟨j + 1, x, by simpa using h1, h2, by rw [hs, h3]; congr 1; omega⟩
theorem findRule_res (rs : List DRule) (off : Int) : findRule rs off = -1 ∨ ∃ (j : Nat) (r : DRule), rs[j]? = some r ∧ btw r.Depth 0 1200 = true ∧ findRule rs off = (j : Int) := by
  unfold findRule
  split
  · rename_i h
    rcases ruleAt_res rs off 0 0 h with h1 | ⟨j, r, h1, h2, h3⟩
    · exact .inl h1
    · exact .inr ⟨j, r, h1, h2, by rw [h3, Nat.zero_add]⟩
  · exact .inl rfl
/-- what a right space says of its images and bases -/
theorem spaceOk_parts {s : DSpace} (hq : spaceOk s = true) : s.Images.length = 2 ∧ s.Bases.length = 2 ∧ (∀ x ∈ s.Images, x.Code.size ≤ 1000000) ∧ (∀ b ∈ s.Bases, btw b 1 1000000 = true) := by
  have h1 := hq
  simp only [spaceOk, Bool.and_eq_true, decide_eq_true_eq, List.all_eq_true] at h1
  refine ⟨by omega, by omega, fun i hi => ?_, fun b hb => ?_⟩
  · have h2 := h1.1.1.1.2 i hi
    simp only [imageOk, Bool.and_eq_true, decide_eq_true_eq] at h2
    exact h2.1
  · exact h1.1.1.2 b hb
theorem loc_res {s : DSpace} (hq : spaceOk s = true) (e : Int) : (loc s e = (-1, -1)) ∨ (∃ off, loc s e = (0, off) ∧ 0 ≤ off ∧ off < 1000000 ∧ 1 ≤ e) ∨ ∃ off, loc s e = (1, off) ∧ 0 ≤ off ∧ off < 1000000 ∧ 1 ≤ e := by
  obtain ⟨h1, h2, h3, h4⟩ := spaceOk_parts hq
  rcases locGo_res s.Images s.Bases e 0 with h | ⟨j, x, b, hj, hb, h, hb1, hb2⟩
  · exact .inl h
  · have hj2 : j < 2 := by have := (List.getElem?_eq_some_iff.1 hj).1; omega
    have hc := h3 x (List.mem_of_getElem? hj)
    have hb3 := btw_iff.1 (h4 b (List.mem_of_getElem? hb))
    rw [Nat.zero_add] at h
    rcases (by omega : j = 0 ∨ j = 1) with rfl | rfl
    · exact .inr (.inl ⟨e - b, h, by omega, by omega, by omega⟩)
    · exact .inr (.inr ⟨e - b, h, by omega, by omega, by omega⟩)
theorem loc_no {s : DSpace} (hq : spaceOk s = true) {e : Int} (he : e < 1) : loc s e = (-1, -1) := by
  rcases loc_res hq e with h | ⟨off, h, _, _, h1⟩ | ⟨off, h, _, _, h1⟩
  · exact h
  · omega
  · omega
def unwGo (s : DSpace) (R0 R1 : List DRule) : Nat → List Int → DView → List Int × Bool
  | 0, out, _ => (out, false)
  | n + 1, out, v => match unwStep s R0 R1 v (decide (out.length = 1)) with
    | none => (out, false)
    | some x => if x.Pc = 0 then (out, true) else unwGo s R0 R1 n (out ++ [x.Pc]) x
def unwind (s : DSpace) (R0 R1 : List DRule) (v : DView) : List Int × Bool := unwGo s R0 R1 39 [v.Pc] v
end Go.Proofs.YtgodpjnbhmahaaaGreat
namespace Go.Proofs.YtgodpjnbhmahaaaGreat
open Go.RowKit
def OwnB (lo : Nat) (W : World) (A : Option Addr) (c : Nat) (xs : List UInt8) : Prop := ∃ g, A = some ⟨g, 0, none⟩ ∧ lo ≤ g ∧ g < W.heap.size ∧ xs.length ≤ c ∧
  (∀ j, j < c → (W.cell? ⟨g, j, none⟩).isSome = true) ∧ (∀ j, j < c → W.frozen? ⟨g, j, none⟩ = false) ∧ ∀ (j : Nat) b, xs[j]? = some b → W.cell? ⟨g, j, none⟩ = some (.int .u8 (b.toNat : Int))
theorem OwnB.gro {lo : Nat} {W W' : World} {A : Option Addr} {c : Nat} {xs : List UInt8} (h : OwnB lo W A c xs) (hg : Gro W W') : OwnB lo W' A c xs := by
  obtain ⟨g, rfl, h1, h2, h3, h4, h5, h6⟩ := h
  have hc : ∀ j, W'.cell? ⟨g, j, none⟩ = W.cell? ⟨g, j, none⟩ := fun j => World.cell?_of_block (hg.block h2)
  have hf : ∀ j, W'.frozen? ⟨g, j, none⟩ = W.frozen? ⟨g, j, none⟩ := fun j => World.frozen?_of_block (hg.block h2)
  exact ⟨g, rfl, h1, Nat.lt_of_lt_of_le h2 hg.size, h3, fun j hj => by rw [hc]; exact h4 j hj, fun j hj => by rw [hf]; exact h5 j hj, fun j b hb => by rw [hc]; exact h6 j b hb⟩
theorem OwnB.read {lo : Nat} {W : World} {A : Option Addr} {c : Nat} {xs : List UInt8} {e : TypeId} (h : OwnB lo W A c xs) (hc : c ≤ 9223372036854775807) : (byteT.sl e).R W W.heap.size [.slice A xs.length c] xs := by
  obtain ⟨g, rfl, h1, h2, h3, h4, h5, h6⟩ := h
  refine ⟨_, c, rfl, h3, hc, (fun h => by cases h), fun _ => ⟨g, 0, rfl, h2, fun i x hx => ⟨_, rfl, fun j u hu => ?_⟩⟩⟩
  cases j with
  | zero =>
    simp at hu
    subst hu
    have := h6 i x hx
    rw [show 0 + i * byteT.size + 0 = i from by show 0 + i * 1 + 0 = i; omega]
    exact this
  | succ j => simp at hu
section
variable {ops : Array Oper} {rest : List Oper} {o : Oper} {a : Act} {Q : Exit → Act → World → Prop} {K : Act → World → Prop}
end
end Go.Proofs.YtgodpjnbhmahaaaGreat
namespace Go.Proofs.YtgodpjnbhmahaaaGreat
open Go.RowKit
theorem elInt : Elem Tryz.prog 26 3 intT 8 := by
  obtain ⟨i0, hi, hz0, hz1, hz2⟩ := info_parts toIntS_info
  exact ⟨Tryz.underlying26, ⟨i0, _, hi, hz0, hz1, hz2, rfl⟩, by decide⟩
end Go.Proofs.YtgodpjnbhmahaaaGreat
namespace Go.Proofs.YtgodpjnbhmahaaaGreat
open Go.RowKit
def signed (n : Nat) : Int := if btw (n : Int) 0 1099511627775 then (if n % 2 = 1 then -((n : Int) + 1) / 2 else (n : Int) / 2) else 0
theorem OwnB.since {lo lo' : Nat} {W : World} {A : Option Addr} {c : Nat} {xs : List UInt8} (h : OwnB lo W A c xs) (hl : lo' ≤ lo) : OwnB lo' W A c xs := by
  obtain ⟨g, h0, h1, h2⟩ := h
  exact ⟨g, h0, Nat.le_trans hl h1, h2⟩
end Go.Proofs.YtgodpjnbhmahaaaGreat
namespace Go.Proofs.YtgodpjnbhmahaaaGreat
open Go.RowKit
set_option maxRecDepth 100000 in
set_option maxHeartbeats 4000000 in
theorem copyView_i {v : DView} {w : World} {A : Option Addr} {n c : Nat} (hn : n = v.Words.length) (p0 : I64 v.Pc) (p1 : I64 v.Sp) (p2 : I64 v.Fp) (h3 : (intT.sl 3).R w w.heap.size [.slice A n c] v.Words) (hl : v.Words.length ≤ 1099511627776) :
    Calls Tryz.prog 188 #[.agg #[.int .i64 v.Pc, .int .i64 v.Sp, .int .i64 v.Fp, .slice A n c]] w (RetView v w) := by
  subst hn
  go_enter Tryz.func188, Tryz.ntmps188
  go_wp2_with (at_builtin; refine wpList_append_flat rfl (.tmp 3) (.tmp 5) elInt flat_int (fresh_empty (Gro.refl _) (by simp)) ((Gro.refl _).alloc _) (Ty.up _ h3 gG) rfl rfl rfl (Nat.zero_add _).symm (by omega) (by omega) ?_; intro B0 d0 os d hF)
  refine bodyPost_ret (v := .agg #[.int .i64 v.Pc, .int .i64 v.Sp, .int .i64 v.Fp, .slice B0 v.Words.length d0]) (by simp [results, Tryz.results188, go_sem]) rfl ⟨B0, d0, rfl, ?_, gG⟩
  exact tView_fresh p0 p1 p2 (hF.fre.same (by repeat (first | with_reducible exact Same.refl _ _ _ | ((with_reducible refine Same.base ?_ ?_) <;> (simp <;> omega)) | ((with_reducible refine Same.more ?_ ?_ _ _); rotate_left; simp <;> omega) | ((with_reducible refine Same.alloc ?_ ?_ _); rotate_left; simp <;> omega) | with_reducible apply Same.drew | with_reducible apply Same.drewN))) (by simp; omega)
end Go.Proofs.YtgodpjnbhmahaaaGreat
namespace Go.Proofs.YtgodpjnbhmahaaaGreat
open Go.RowKit
set_option maxRecDepth 100000 in
set_option maxHeartbeats 3000000 in
theorem wordOf_i {v : DView} {a : Int} {w : World} {A : Option Addr} {c : Nat} (hv : viewIn v) (h3 : (intT.sl 3).R w w.heap.size [.slice A v.Words.length c] v.Words) :
    Calls Tryz.prog 280 #[.agg #[.int .i64 v.Pc, .int .i64 v.Sp, .int .i64 v.Fp, .slice A v.Words.length c], .int .i64 a] w fun r w' => r = .returned (.tuple #[.int .i64 ((wordOf v a).getD 0), .bool (wordOf v a).isSome]) ∧ Gro w w' := by
  have hs := hv.sp
  have HV := Lib.hid hv.1
  have hl : v.Words.length ≤ 1099511627776 := by omega
  have hw1 : IntKind.i64.wrap (v.Sp + (v.Words.length : Int)) = v.Sp + (v.Words.length : Int) := IntWalk.i64_in _ ⟨by omega, by omega⟩
  have hw2 : IntKind.i64.wrap (v.Sp + (v.Words.length : Int) - 1) = v.Sp + (v.Words.length : Int) - 1 := IntWalk.i64_in _ ⟨by omega, by omega⟩
  rcases wordOf_cases v a with ⟨hb, he⟩ | ⟨j, x, hj, hjl, hx, hb, he⟩
  · have HB := Lib.hid hb
    rw [he]
    clear hb he
    go_enter Tryz.func280, Tryz.ntmps280
    go_wp2_with (first | (go_at_call 111; (with_reducible refine (viewOk_i v _ _ _ hl).mono ?_); rw [HV.out]; rintro e w1 ⟨rfl, os, d, rfl⟩) | (go_at_call 73; (with_reducible refine (in_i a v.Sp (v.Sp + (v.Words.length : Int) - 1) _).mono ?_); rw [HB.out]; rintro e w1 ⟨rfl, rfl⟩))
    exact bodyPost_ret (v := .tuple #[.int .i64 0, .bool false]) (by simp [results, Tryz.results280, go_sem]) rfl ⟨rfl, gG⟩
  · subst hj
    have HB := Lib.hid hb
    rw [he]
    obtain ⟨g, off, x', ec, rfl, hg, hx', hR, hc⟩ := elem_at h3 hjl
    obtain rfl : x' = x := by rw [hx] at hx'; injection hx' with hx'; exact hx'.symm
    obtain ⟨rfl, hx1, hx2⟩ := hR
    have m0 : w.cell? ⟨g, off + j, none⟩ = some (.int .i64 x') := by have h := hc 0 _ rfl; simpa [intT] using h
    have hw0 : IntKind.i64.wrap (j : Int) = (j : Int) := IntWalk.i64_in _ ⟨by omega, by omega⟩
    have hw3 : IntKind.i64.wrap (v.Sp + (j : Int) - v.Sp) = (j : Int) := by rw [show v.Sp + (j : Int) - v.Sp = (j : Int) from by omega]; exact hw0
    have hj0 : (0 : Int) ≤ (j : Int) := by omega
    have hji : (j : Int) < (v.Words.length : Int) := by omega
    clear hb he hc hx' hx
    go_enter Tryz.func280, Tryz.ntmps280
    go_wp2_with (first | (go_at_call 111; (with_reducible refine (viewOk_i v _ _ _ hl).mono ?_); rw [HV.out]; rintro e w1 ⟨rfl, os, d, rfl⟩) | (go_at_call 73; (with_reducible refine (in_i (v.Sp + (j : Int)) v.Sp (v.Sp + (v.Words.length : Int) - 1) _).mono ?_); rw [HB.out]; rintro e w1 ⟨rfl, rfl⟩))
    exact bodyPost_ret (v := .tuple #[.int .i64 x', .bool true]) (by simp [results, Tryz.results280, go_sem]) rfl ⟨rfl, gG⟩
set_option maxRecDepth 100000 in
set_option maxHeartbeats 3000000 in
theorem wordOf_s {v : DView} {a : Int} {w : World} {A : Option Addr} {c : Nat} (hv : viewIn v) (h3 : (intT.sl 3).R w w.heap.size [.slice A v.Words.length c] v.Words) :
    Calls Tryz.prog 286 #[.agg #[.int .i64 v.Pc, .int .i64 v.Sp, .int .i64 v.Fp, .slice A v.Words.length c], .int .i64 a] w fun r w' => r = .returned (.tuple #[.int .i64 ((wordOf v a).getD 0), .bool (wordOf v a).isSome]) ∧ Gro w w' := by
  have hs := hv.sp
  have HV := Lib.hid hv.1
  have hl : v.Words.length ≤ 1099511627776 := by omega
  have hw1 : IntKind.i64.wrap (v.Sp + (v.Words.length : Int)) = v.Sp + (v.Words.length : Int) := IntWalk.i64_in _ ⟨by omega, by omega⟩
  have hw2 : IntKind.i64.wrap (v.Sp + (v.Words.length : Int) - 1) = v.Sp + (v.Words.length : Int) - 1 := IntWalk.i64_in _ ⟨by omega, by omega⟩
  rcases wordOf_cases v a with ⟨hb, he⟩ | ⟨j, x, hj, hjl, hx, hb, he⟩
  · have HB := Lib.hid hb
    rw [he]
    clear hb he
    go_enter Tryz.func286, Tryz.ntmps286
    go_wp2_with (first | (go_at_call 178; (with_reducible refine (viewOk_s v _ _ _ hl).mono ?_); rw [HV.out]; rintro e w1 ⟨rfl, os, d, rfl⟩) | (go_at_call 78; (with_reducible refine (in_s a v.Sp (v.Sp + (v.Words.length : Int) - 1) _).mono ?_); rw [HB.out]; rintro e w1 ⟨rfl, rfl⟩))
    exact bodyPost_ret (v := .tuple #[.int .i64 0, .bool false]) (by simp [results, Tryz.results286, go_sem]) rfl ⟨rfl, gG⟩
  · subst hj
    have HB := Lib.hid hb
    rw [he]
    obtain ⟨g, off, x', ec, rfl, hg, hx', hR, hc⟩ := elem_at h3 hjl
    obtain rfl : x' = x := by rw [hx] at hx'; injection hx' with hx'; exact hx'.symm
    obtain ⟨rfl, hx1, hx2⟩ := hR
    have m0 : w.cell? ⟨g, off + j, none⟩ = some (.int .i64 x') := by have h := hc 0 _ rfl; simpa [intT] using h
    have hw0 : IntKind.i64.wrap (j : Int) = (j : Int) := IntWalk.i64_in _ ⟨by omega, by omega⟩
    have hw3 : IntKind.i64.wrap (v.Sp + (j : Int) - v.Sp) = (j : Int) := by rw [show v.Sp + (j : Int) - v.Sp = (j : Int) from by omega]; exact hw0
    have hj0 : (0 : Int) ≤ (j : Int) := by omega
    have hji : (j : Int) < (v.Words.length : Int) := by omega
    clear hb he hc hx' hx
    go_enter Tryz.func286, Tryz.ntmps286
    go_wp2_with (first | (go_at_call 178; (with_reducible refine (viewOk_s v _ _ _ hl).mono ?_); rw [HV.out]; rintro e w1 ⟨rfl, os, d, rfl⟩) | (go_at_call 78; (with_reducible refine (in_s (v.Sp + (j : Int)) v.Sp (v.Sp + (v.Words.length : Int) - 1) _).mono ?_); rw [HB.out]; rintro e w1 ⟨rfl, rfl⟩))
    exact bodyPost_ret (v := .tuple #[.int .i64 x', .bool true]) (by simp [results, Tryz.results286, go_sem]) rfl ⟨rfl, gG⟩
set_option maxRecDepth 100000 in
set_option maxHeartbeats 3000000 in
theorem moved_i {v : DView} {pc fp : Int} {k : Nat} {w : World} {A : Option Addr} {c : Nat} (hv : viewIn v) (hp : Small pc) (hf : Small fp) (hk : k ≤ v.Words.length) (h3 : (intT.sl 3).R w w.heap.size [.slice A v.Words.length c] v.Words) :
    Calls Tryz.prog 281 #[.agg #[.int .i64 v.Pc, .int .i64 v.Sp, .int .i64 v.Fp, .slice A v.Words.length c], .int .i64 pc, .int .i64 (v.Sp + (k : Int)), .int .i64 fp] w (RetView (unwTo v pc (v.Sp + (k : Int)) fp) w) := by
  obtain ⟨Pc, Sp, Fp, ws⟩ := v
  have hs := hv.sp
  simp only at hs hk h3 ⊢
  obtain ⟨sp, rfl⟩ := Int.eq_ofNat_of_zero_le hs.1
  obtain ⟨_, _, hx', hxl, hcm⟩ := sl_at h3
  injection hx' with e1 e2 e3
  subst e1 e3
  clear e2
  obtain ⟨B9, hsl, hd⟩ := run_from (P := Tryz.prog) elInt h3 (k := k) hk
  have HQ := Lib.hid (show unwTo ⟨Pc, (sp : Int), Fp, ws⟩ pc ((sp : Int) + (k : Int)) fp = ⟨pc, (sp : Int) + (k : Int), fp, ws.drop k⟩ from by unfold unwTo; rw [show ((sp : Int) + (k : Int) - (sp : Int)).toNat = k from by omega])
  obtain ⟨L, hL⟩ : ∃ L, ws.length - k = L := ⟨_, rfl⟩
  rw [hL] at hsl hd
  have HLN := Lib.hid (show L = (ws.drop k).length from by rw [List.length_drop]; exact hL.symm)
  have hwl : (ws.drop k).length ≤ 1099511627776 := by rw [List.length_drop]; omega
  have hL2 : L ≤ 1200 := by omega
  have p0 : I64 pc := ⟨by have := hp.1; omega, by have := hp.2; omega⟩
  have p1 : I64 ((sp : Int) + (k : Int)) := ⟨by omega, by omega⟩
  have p2 : I64 fp := ⟨by have := hf.1; omega, by have := hf.2; omega⟩
  have hw0 : IntKind.i64.wrap (k : Int) = (k : Int) := IntWalk.i64_in _ ⟨by omega, by omega⟩
  have hw3 : IntKind.i64.wrap ((sp : Int) + (k : Int) - (sp : Int)) = (k : Int) := by rw [show (sp : Int) + (k : Int) - (sp : Int) = (k : Int) from by omega]; exact hw0
  have hmn : (if (ws.length : Int) < (k : Int) then (ws.length : Int) else (k : Int)) = (k : Int) := if_neg (by omega)
  have hmn2 : (if ws.length < k then (ws.length : Int) else (k : Int)) = (k : Int) := if_neg (by omega)
  obtain ⟨ds, hds⟩ : ∃ ds, ws.drop k = ds := ⟨_, rfl⟩
  rw [hds] at HQ HLN hwl hd
  clear hL hds
  go_enter Tryz.func281, Tryz.ntmps281
  go_upto_region 1 with (fail)
  have hG0 : Gro w ((w.alloc (.cells #[.int .i64 Pc, .int .i64 (sp : Int), .int .i64 Fp, .slice A ws.length c] 49)).alloc (.cells #[.int .i64 0, .int .i64 0, .int .i64 0, .slice none 0 0] 49)) := gG
  have eb : ((w.alloc (.cells #[.int .i64 Pc, .int .i64 (sp : Int), .int .i64 Fp, .slice A ws.length c] 49)).alloc (.cells #[.int .i64 0, .int .i64 0, .int .i64 0, .slice none 0 0] 49)).heap[w.heap.size]? = some (.cells #[.int .i64 Pc, .int .i64 (sp : Int), .int .i64 Fp, .slice A ws.length c] 49 (0, 0)) := grow_blk (heap_alloc_new w _) gF
  have er : ((w.alloc (.cells #[.int .i64 Pc, .int .i64 (sp : Int), .int .i64 Fp, .slice A ws.length c] 49)).alloc (.cells #[.int .i64 0, .int .i64 0, .int .i64 0, .slice none 0 0] 49)).heap[w.heap.size + 1]? = some (.cells #[.int .i64 0, .int .i64 0, .int .i64 0, .slice none 0 0] 49 (0, 0)) := by have h := heap_alloc_new (w.alloc (.cells #[.int .i64 Pc, .int .i64 (sp : Int), .int .i64 Fp, .slice A ws.length c] 49)) (.cells #[.int .i64 0, .int .i64 0, .int .i64 0, .slice none 0 0] 49); rw [World.size_alloc] at h; exact h
  have hd3 := Ty.up _ hd hG0
  obtain ⟨g, hg⟩ : ∃ g, w.heap.size = g := ⟨_, rfl⟩
  have hg0 : w.heap.size ≤ g := by omega
  rw [hg] at eb er ⊢
  generalize ((w.alloc (.cells #[.int .i64 Pc, .int .i64 (sp : Int), .int .i64 Fp, .slice A ws.length c] 49)).alloc (.cells #[.int .i64 0, .int .i64 0, .int .i64 0, .slice none 0 0] 49)) = Y at hG0 eb er hd3 ⊢
  obtain ⟨y0, y1, y2, y3, _⟩ := box4 eb
  have HGY := Lib.hid (show g + 1 < Y.heap.size from (Array.getElem?_eq_some_iff.1 er).1)
  clear hd h3
  go_wp2_with (go_at_call 188; (with_reducible refine (copyView_i (v := ⟨pc, (sp : Int) + (k : Int), fp, ds⟩) HLN.out p0 p1 p2 (Ty.up _ hd3 gG) hwl).mono ?_); rintro e w2 ⟨Bv, cv, rfl, hFv, hgv⟩; have er := grow_blk er hgv; have hgv := hG0.trans hgv; obtain ⟨q0, q1, q2, q3, qf⟩ := box4 er)
  rw [HQ.out]
  have h2 := set4 er (.int .i64 pc) (.int .i64 ((sp : Int) + (k : Int))) (.int .i64 fp) (.slice Bv ds.length cv)
  obtain ⟨r0, r1, r2, r3, _⟩ := box4 h2.1
  obtain ⟨SS, hHs, hls⟩ := Fresh.has hFv
  have hYs := hG0.size
  have hgY : g + 1 < Y.heap.size := HGY.out
  exact bodyPost_ret (v := .agg #[.int .i64 pc, .int .i64 ((sp : Int) + (k : Int)), .int .i64 fp, .slice Bv ds.length cv]) (by simp [results, Tryz.results281, go_sem, r0, r1, r2, r3]) rfl ⟨Bv, cv, rfl, (hHs.keep h2.2 (fun b hb hm => by have h9 : Y.heap.size ≤ b := hls b hb; simp at hm; omega)).fresh (fun b hb => by have h9 : Y.heap.size ≤ b := hls b hb; omega), h2.2.gro hgv (fun b hb => by simp at hb; omega)⟩
end Go.Proofs.YtgodpjnbhmahaaaGreat
namespace Go.Proofs.YtgodpjnbhmahaaaGreat
open Go.RowKit
set_option maxRecDepth 100000 in
set_option maxHeartbeats 4000000 in
theorem rulesOk_i {rs : List DRule} {w : World} {A : Option Addr} {c : Nat} (hx : (tRule.sl 254).R w w.heap.size [.slice A rs.length c] rs) :
    Calls Tryz.prog 231 #[.slice A rs.length c] w fun e w' => e = .returned (.bool (rulesG 0 rs)) ∧ Gro w w' := by
  obtain ⟨_, _, hx', h1, h2⟩ := sl_at hx
  injection hx' with e1 e2 e3
  subst e1 e3
  clear e2
  go_enter Tryz.func231, Tryz.ntmps231
  go_wp2
  go_loopw [7] (fun a wr => ∃ k : Nat, a = .int .i64 k ∧ k ≤ rs.length ∧ Hid (Gro w wr) ∧ Hid (rulesG (lastR rs k) (rs.drop k) = rulesG 0 rs) ∧ 0 ≤ lastR rs k) (fun a _ => rs.length - (intOf a).toNat)
  case atStart => exact ⟨0, rfl, Nat.zero_le _, Lib.hid (Gro.refl _), Lib.hid rfl, Int.le_refl _⟩
  case round =>
    obtain ⟨k, rfl, hk, hG, hE, hl0⟩ := hrel
    obtain ⟨os, d, rfl⟩ := hG.out
    clear hG
    by_cases hlt : k < rs.length
    · obtain ⟨g, off, r, hA, hgb, hxk, x0, x1, x2, x3, bs, be, bd⟩ := atRule hx hlt
      have HX := Lib.hid hxk
      have HXK := Lib.hid hxk
      have x0 := gro_keeps x0 os d
      have x1 := gro_keeps x1 os d
      have x2 := gro_keeps x2 os d
      have x3 := gro_keeps x3 os d
      have hki : (k : Int) < (rs.length : Int) := by omega
      clear hxk
      subst hA
      by_cases a1 : r.Start < 0
      · have a1b : decide (r.Start < 0) = true := decide_eq_true a1
        have HR := Lib.hid (rule1_no (last := lastR rs k) (r := r) (by omega))
        clear hx HXK
        go_wp2_with (fail)
        go_quiet ((first | (go_at_call 73; with_reducible exact in_iv hb _ _)))
        go_wp2_with (fail)
        go_ret
        exact ⟨ret_bool (by rw [← hE.out, rulesG_at HX.out, HR.out]; rfl), gG⟩
      · have a1b : decide (r.Start < 0) = false := decide_eq_false a1
        by_cases a2 : r.End ≤ r.Start
        · have a2b : decide (r.End ≤ r.Start) = true := decide_eq_true a2
          have HR := Lib.hid (rule1_no (last := lastR rs k) (r := r) (by omega))
          clear hx HXK
          go_wp2_with (fail)
          go_quiet ((first | (go_at_call 73; with_reducible exact in_iv hb _ _)))
          go_wp2_with (fail)
          go_ret
          exact ⟨ret_bool (by rw [← hE.out, rulesG_at HX.out, HR.out]; rfl), gG⟩
        · have a2b : decide (r.End ≤ r.Start) = false := decide_eq_false a2
          by_cases a3 : 1000000 < r.End
          · have a3b : decide (1000000 < r.End) = true := decide_eq_true a3
            have HR := Lib.hid (rule1_no (last := lastR rs k) (r := r) (by omega))
            clear hx HXK
            go_wp2_with (fail)
            go_quiet ((first | (go_at_call 73; with_reducible exact in_iv hb _ _)))
            go_wp2_with (fail)
            go_ret
            exact ⟨ret_bool (by rw [← hE.out, rulesG_at HX.out, HR.out]; rfl), gG⟩
          · have a3b : decide (1000000 < r.End) = false := decide_eq_false a3
            obtain ⟨b, hb⟩ : ∃ b, btw r.Depth 0 1200 = b := ⟨_, rfl⟩
            cases b with
            | false =>
              have HR := Lib.hid (rule1_no (last := lastR rs k) (r := r) (by rw [hb]; simp))
              clear hx HXK
              go_wp2_with (fail)
              go_quiet ((first | (go_at_call 73; with_reducible exact in_iv hb _ _)))
              go_wp2_with (fail)
              go_ret
              exact ⟨ret_bool (by rw [← hE.out, rulesG_at HX.out, HR.out]; rfl), gG⟩
            | true =>
              obtain ⟨b_hfr, hfr⟩ : ∃ b, r.Frame = b := ⟨_, rfl⟩
              cases b_hfr with
              | true =>
                obtain ⟨b_hdz, hdz⟩ : ∃ b, (r.Depth != 0) = b := ⟨_, rfl⟩
                cases b_hdz with
                | true =>
                  have HR := Lib.hid (rule1_no (last := lastR rs k) (r := r) (by intro h; have h9 := h.2.2.2.2 hfr; simp [h9] at hdz))
                  clear hx HXK
                  go_wp2_with (fail)
                  go_quiet ((first | (go_at_call 73; with_reducible exact in_iv hb _ _)))
                  go_wp2_with (fail)
                  go_ret
                  exact ⟨ret_bool (by rw [← hE.out, rulesG_at HX.out, HR.out]; rfl), gG⟩
                | false =>
                  cases k with
                  | zero =>
                    have hz : ¬ ((0 : Int) < ((0 : Nat) : Int)) := by omega
                    simp only [Nat.zero_mul, Nat.add_zero] at x0 x1 x2 x3
                    have hls : lastR rs 0 = 0 := rfl
                    have HR := Lib.hid (rule1_iff.2 (show lastR rs 0 ≤ r.Start ∧ r.Start < r.End ∧ r.End ≤ 1000000 ∧ btw r.Depth 0 1200 = true ∧ (r.Frame = true → r.Depth = 0) from ⟨by omega, by omega, by omega, hb, fun _ => by simpa using hdz⟩))
                    clear HXK
                    go_wp2_with (fail)
                    go_quiet ((first | (go_at_call 73; with_reducible exact in_iv hb _ _)))
                    go_wp2_with (fail)
                    go_roundw
                    case measure => (simp [intOf]; try omega)
                    case rel => exact ⟨0 + 1, by go_num, by omega, Lib.hid gG, Lib.hid (by rw [← hE.out, rulesG_at HX.out, HR.out]; simp [lastR, HX.out]), by show 0 ≤ (rs[0]?.map DRule.End).getD 0; rw [HX.out]; show 0 ≤ r.End; omega⟩
                  | succ j =>
                    obtain ⟨gq, offq, q, hAq, _, hqk, u0, u1, u2, u3, _, _, _⟩ := atRule hx (k := j) (by omega)
                    have u1 := gro_keeps u1 os d
                    injection hAq with hAq
                    injection hAq with hq1 hq2
                    subst hq1 hq2
                    have hls : lastR rs (j + 1) = q.End := by show (rs[j]?.map DRule.End).getD 0 = q.End; rw [hqk]; rfl
                    have hz : (0 : Int) < (j : Int) + 1 := by omega
                    have hw1 : IntKind.i64.wrap ((j : Int) + 1 - 1) = (j : Int) := by rw [show (j : Int) + 1 - 1 = (j : Int) from by omega]; exact IntWalk.i64_in _ ⟨by omega, by omega⟩
                    have hji : (j : Int) < (rs.length : Int) := by omega
                    by_cases a6 : r.Start < q.End
                    · have a6b : decide (r.Start < q.End) = true := decide_eq_true a6
                      have HR := Lib.hid (rule1_no (last := lastR rs (j + 1)) (r := r) (by rw [hls]; intro h; omega))
                      clear hx HXK
                      go_wp2_with (fail)
                      go_quiet ((first | (go_at_call 73; with_reducible exact in_iv hb _ _)))
                      go_wp2_with (fail)
                      go_ret
                      exact ⟨ret_bool (by rw [← hE.out, rulesG_at HX.out, HR.out]; rfl), gG⟩
                    · have a6b : decide (r.Start < q.End) = false := decide_eq_false a6
                      have HR := Lib.hid (rule1_iff.2 (show lastR rs (j + 1) ≤ r.Start ∧ r.Start < r.End ∧ r.End ≤ 1000000 ∧ btw r.Depth 0 1200 = true ∧ (r.Frame = true → r.Depth = 0) from ⟨by omega, by omega, by omega, hb, fun _ => by simpa using hdz⟩))
                      clear HXK
                      go_wp2_with (fail)
                      go_quiet ((first | (go_at_call 73; with_reducible exact in_iv hb _ _)))
                      go_wp2_with (fail)
                      go_roundw
                      case measure => (simp [intOf]; try omega)
                      case rel => exact ⟨j + 1 + 1, by go_num, by omega, Lib.hid gG, Lib.hid (by rw [← hE.out, rulesG_at HX.out, HR.out]; simp [lastR, HX.out]), by show 0 ≤ (rs[j + 1]?.map DRule.End).getD 0; rw [HX.out]; show 0 ≤ r.End; omega⟩
              | false =>
                cases k with
                | zero =>
                  have hz : ¬ ((0 : Int) < ((0 : Nat) : Int)) := by omega
                  simp only [Nat.zero_mul, Nat.add_zero] at x0 x1 x2 x3
                  have hls : lastR rs 0 = 0 := rfl
                  have HR := Lib.hid (rule1_iff.2 (show lastR rs 0 ≤ r.Start ∧ r.Start < r.End ∧ r.End ≤ 1000000 ∧ btw r.Depth 0 1200 = true ∧ (r.Frame = true → r.Depth = 0) from ⟨by omega, by omega, by omega, hb, fun h => by rw [hfr] at h; cases h⟩))
                  clear HXK
                  go_wp2_with (fail)
                  go_quiet ((first | (go_at_call 73; with_reducible exact in_iv hb _ _)))
                  go_wp2_with (fail)
                  go_roundw
                  case measure => (simp [intOf]; try omega)
                  case rel => exact ⟨0 + 1, by go_num, by omega, Lib.hid gG, Lib.hid (by rw [← hE.out, rulesG_at HX.out, HR.out]; simp [lastR, HX.out]), by show 0 ≤ (rs[0]?.map DRule.End).getD 0; rw [HX.out]; show 0 ≤ r.End; omega⟩
                | succ j =>
                  obtain ⟨gq, offq, q, hAq, _, hqk, u0, u1, u2, u3, _, _, _⟩ := atRule hx (k := j) (by omega)
                  have u1 := gro_keeps u1 os d
                  injection hAq with hAq
                  injection hAq with hq1 hq2
                  subst hq1 hq2
                  have hls : lastR rs (j + 1) = q.End := by show (rs[j]?.map DRule.End).getD 0 = q.End; rw [hqk]; rfl
                  have hz : (0 : Int) < (j : Int) + 1 := by omega
                  have hw1 : IntKind.i64.wrap ((j : Int) + 1 - 1) = (j : Int) := by rw [show (j : Int) + 1 - 1 = (j : Int) from by omega]; exact IntWalk.i64_in _ ⟨by omega, by omega⟩
                  have hji : (j : Int) < (rs.length : Int) := by omega
                  by_cases a6 : r.Start < q.End
                  · have a6b : decide (r.Start < q.End) = true := decide_eq_true a6
                    have HR := Lib.hid (rule1_no (last := lastR rs (j + 1)) (r := r) (by rw [hls]; intro h; omega))
                    clear hx HXK
                    go_wp2_with (fail)
                    go_quiet ((first | (go_at_call 73; with_reducible exact in_iv hb _ _)))
                    go_wp2_with (fail)
                    go_ret
                    exact ⟨ret_bool (by rw [← hE.out, rulesG_at HX.out, HR.out]; rfl), gG⟩
                  · have a6b : decide (r.Start < q.End) = false := decide_eq_false a6
                    have HR := Lib.hid (rule1_iff.2 (show lastR rs (j + 1) ≤ r.Start ∧ r.Start < r.End ∧ r.End ≤ 1000000 ∧ btw r.Depth 0 1200 = true ∧ (r.Frame = true → r.Depth = 0) from ⟨by omega, by omega, by omega, hb, fun h => by rw [hfr] at h; cases h⟩))
                    clear HXK
                    go_wp2_with (fail)
                    go_quiet ((first | (go_at_call 73; with_reducible exact in_iv hb _ _)))
                    go_wp2_with (fail)
                    go_roundw
                    case measure => (simp [intOf]; try omega)
                    case rel => exact ⟨j + 1 + 1, by go_num, by omega, Lib.hid gG, Lib.hid (by rw [← hE.out, rulesG_at HX.out, HR.out]; simp [lastR, HX.out]), by show 0 ≤ (rs[j + 1]?.map DRule.End).getD 0; rw [HX.out]; show 0 ≤ r.End; omega⟩
    · have hki : ¬ ((k : Int) < (rs.length : Int)) := by omega
      go_wp2_with (fail)
      go_ret
      refine ⟨ret_bool ?_, gG⟩
      rw [← hE.out, show k = rs.length from by omega, List.drop_length]
      rfl
set_option maxRecDepth 100000 in
set_option maxHeartbeats 4000000 in
theorem rulesOk_s {rs : List DRule} {w : World} {A : Option Addr} {c : Nat} (hx : (tRule.sl 254).R w w.heap.size [.slice A rs.length c] rs) :
    Calls Tryz.prog 247 #[.slice A rs.length c] w fun e w' => e = .returned (.bool (rulesG 0 rs)) ∧ Gro w w' := by
  obtain ⟨_, _, hx', h1, h2⟩ := sl_at hx
  injection hx' with e1 e2 e3
  subst e1 e3
  clear e2
  go_enter Tryz.func247, Tryz.ntmps247
  go_wp2
  go_loopw [3, 4] (fun z a wr => ∃ k : Nat, z = .int .i64 (lastR rs k) ∧ a = .int .i64 k ∧ k ≤ rs.length ∧ Hid (Gro w wr) ∧ Hid (rulesG (lastR rs k) (rs.drop k) = rulesG 0 rs) ∧ 0 ≤ lastR rs k) (fun _ a _ => rs.length - (intOf a).toNat)
  case atStart => exact ⟨0, rfl, rfl, Nat.zero_le _, Lib.hid (Gro.refl _), Lib.hid rfl, Int.le_refl _⟩
  case round =>
    obtain ⟨k, rfl, rfl, hk, hG, hE, hl0⟩ := hrel
    obtain ⟨os, d, rfl⟩ := hG.out
    clear hG
    by_cases hlt : k < rs.length
    · obtain ⟨g, off, r, hA, hgb, hxk, x0, x1, x2, x3, bs, be, bd⟩ := atRule hx hlt
      have HX := Lib.hid hxk
      have HXK := Lib.hid hxk
      have x0 := gro_keeps x0 os d
      have x1 := gro_keeps x1 os d
      have x2 := gro_keeps x2 os d
      have x3 := gro_keeps x3 os d
      have hki : (k : Int) < (rs.length : Int) := by omega
      clear hxk
      subst hA
      by_cases a1 : r.Start < lastR rs k
      · have a1b : decide (r.Start < lastR rs k) = true := decide_eq_true a1
        have HR := Lib.hid (rule1_no (last := lastR rs k) (r := r) (by omega))
        clear hx HXK
        go_wp2_with (go_at_call 78; (with_reducible refine (in_s _ _ _ _).mono ?_); rw [hb]; rintro e w1 ⟨rfl, rfl⟩)
        go_ret
        exact ⟨ret_bool (by rw [← hE.out, rulesG_at HX.out, HR.out]; rfl), gG⟩
      · have a1b : decide (r.Start < lastR rs k) = false := decide_eq_false a1
        by_cases a2 : r.End ≤ r.Start
        · have a2b : decide (r.End ≤ r.Start) = true := decide_eq_true a2
          have HR := Lib.hid (rule1_no (last := lastR rs k) (r := r) (by omega))
          clear hx HXK
          go_wp2_with (go_at_call 78; (with_reducible refine (in_s _ _ _ _).mono ?_); rw [hb]; rintro e w1 ⟨rfl, rfl⟩)
          go_ret
          exact ⟨ret_bool (by rw [← hE.out, rulesG_at HX.out, HR.out]; rfl), gG⟩
        · have a2b : decide (r.End ≤ r.Start) = false := decide_eq_false a2
          by_cases a3 : 1000000 < r.End
          · have a3b : decide (1000000 < r.End) = true := decide_eq_true a3
            have HR := Lib.hid (rule1_no (last := lastR rs k) (r := r) (by omega))
            clear hx HXK
            go_wp2_with (go_at_call 78; (with_reducible refine (in_s _ _ _ _).mono ?_); rw [hb]; rintro e w1 ⟨rfl, rfl⟩)
            go_ret
            exact ⟨ret_bool (by rw [← hE.out, rulesG_at HX.out, HR.out]; rfl), gG⟩
          · have a3b : decide (1000000 < r.End) = false := decide_eq_false a3
            obtain ⟨b, hb⟩ : ∃ b, btw r.Depth 0 1200 = b := ⟨_, rfl⟩
            cases b with
            | false =>
              have HR := Lib.hid (rule1_no (last := lastR rs k) (r := r) (by rw [hb]; simp))
              clear hx HXK
              go_wp2_with (go_at_call 78; (with_reducible refine (in_s _ _ _ _).mono ?_); rw [hb]; rintro e w1 ⟨rfl, rfl⟩)
              go_ret
              exact ⟨ret_bool (by rw [← hE.out, rulesG_at HX.out, HR.out]; rfl), gG⟩
            | true =>
              obtain ⟨b_hfr, hfr⟩ : ∃ b, r.Frame = b := ⟨_, rfl⟩
              cases b_hfr with
              | true =>
                obtain ⟨b_hdz, hdz⟩ : ∃ b, (r.Depth != 0) = b := ⟨_, rfl⟩
                cases b_hdz with
                | true =>
                  have HR := Lib.hid (rule1_no (last := lastR rs k) (r := r) (by intro h; have h9 := h.2.2.2.2 hfr; simp [h9] at hdz))
                  clear hx HXK
                  go_wp2_with (go_at_call 78; (with_reducible refine (in_s _ _ _ _).mono ?_); rw [hb]; rintro e w1 ⟨rfl, rfl⟩)
                  go_ret
                  exact ⟨ret_bool (by rw [← hE.out, rulesG_at HX.out, HR.out]; rfl), gG⟩
                | false =>
                  have HR := Lib.hid (rule1_iff.2 (show lastR rs k ≤ r.Start ∧ r.Start < r.End ∧ r.End ≤ 1000000 ∧ btw r.Depth 0 1200 = true ∧ (r.Frame = true → r.Depth = 0) from ⟨by omega, by omega, by omega, hb, fun _ => by simpa using hdz⟩))
                  clear HXK
                  go_wp2_with (go_at_call 78; (with_reducible refine (in_s _ _ _ _).mono ?_); rw [hb]; rintro e w1 ⟨rfl, rfl⟩)
                  go_roundw
                  case measure => (simp [intOf]; try omega)
                  case rel => exact ⟨k + 1, by show Value.int .i64 r.End = .int .i64 ((rs[k]?.map DRule.End).getD 0); rw [HX.out]; rfl, by go_num, by omega, Lib.hid gG, Lib.hid (by rw [← hE.out, rulesG_at HX.out, HR.out]; simp [lastR, HX.out]), by show 0 ≤ (rs[k]?.map DRule.End).getD 0; rw [HX.out]; show 0 ≤ r.End; omega⟩
              | false =>
                have HR := Lib.hid (rule1_iff.2 (show lastR rs k ≤ r.Start ∧ r.Start < r.End ∧ r.End ≤ 1000000 ∧ btw r.Depth 0 1200 = true ∧ (r.Frame = true → r.Depth = 0) from ⟨by omega, by omega, by omega, hb, fun h => by rw [hfr] at h; cases h⟩))
                clear HXK
                go_wp2_with (go_at_call 78; (with_reducible refine (in_s _ _ _ _).mono ?_); rw [hb]; rintro e w1 ⟨rfl, rfl⟩)
                go_roundw
                case measure => (simp [intOf]; try omega)
                case rel => exact ⟨k + 1, by show Value.int .i64 r.End = .int .i64 ((rs[k]?.map DRule.End).getD 0); rw [HX.out]; rfl, by go_num, by omega, Lib.hid gG, Lib.hid (by rw [← hE.out, rulesG_at HX.out, HR.out]; simp [lastR, HX.out]), by show 0 ≤ (rs[k]?.map DRule.End).getD 0; rw [HX.out]; show 0 ≤ r.End; omega⟩
    · have hki : ¬ ((k : Int) < (rs.length : Int)) := by omega
      go_wp2_with (fail)
      go_ret
      refine ⟨ret_bool ?_, gG⟩
      rw [← hE.out, show k = rs.length from by omega, List.drop_length]
      rfl
end Go.Proofs.YtgodpjnbhmahaaaGreat
namespace Go.Proofs.YtgodpjnbhmahaaaGreat
open Go.RowKit
set_option maxRecDepth 100000 in
set_option maxHeartbeats 3000000 in
theorem findRule_i {rs : List DRule} {off : Int} {w : World} {A : Option Addr} {c : Nat} (hx : (tRule.sl 254).R w w.heap.size [.slice A rs.length c] rs) (ho : I64 off) :
    Calls Tryz.prog 279 #[.slice A rs.length c, .int .i64 off] w fun e w' => e = .returned (.int .i64 (findRule rs off)) ∧ Gro w w' := by
  obtain ⟨_, _, hx', h1, h2⟩ := sl_at hx
  injection hx' with e1 e2 e3
  subst e1 e3
  clear e2
  obtain ⟨ho1, ho2⟩ := ho
  obtain ⟨q, hq⟩ : ∃ q, rulesG 0 rs = q := ⟨_, rfl⟩
  have HQ := Lib.hid hq
  cases q with
  | false =>
    have HF := Lib.hid (show findRule rs off = -1 from by unfold findRule; rw [hq]; rfl)
    clear hq
    go_enter Tryz.func279, Tryz.ntmps279
    go_wp2_with (go_at_call 231; (with_reducible refine (rulesOk_i (rs := rs) hx).mono ?_); rw [HQ.out]; rintro e w1 ⟨rfl, hg1⟩)
    go_ret
    exact ⟨ret_int HF.out.symm, hg1⟩
  | true =>
    have HF := Lib.hid (show findRule rs off = ruleAt rs off 0 from by unfold findRule; rw [hq]; rfl)
    clear hq
    go_enter Tryz.func279, Tryz.ntmps279
    go_wp2_with (go_at_call 231; (with_reducible refine (rulesOk_i (rs := rs) hx).mono ?_); rw [HQ.out]; rintro e w1 ⟨rfl, hg1⟩)
    have hx1 := Ty.up _ hx hg1
    go_loopw [12] (fun a wr => ∃ k : Nat, a = .int .i64 k ∧ k ≤ rs.length ∧ Hid (Gro w1 wr) ∧ Hid (ruleAt (rs.drop k) off k = findRule rs off)) (fun a _ => rs.length - (intOf a).toNat)
    case atStart => exact ⟨0, rfl, Nat.zero_le _, Lib.hid (Gro.refl _), Lib.hid HF.out.symm⟩
    case round =>
      obtain ⟨k, rfl, hk, hG, hE⟩ := hrel
      obtain ⟨os, d, rfl⟩ := hG.out
      clear hG
      by_cases hlt : k < rs.length
      · obtain ⟨g, offx, r, hA, hgb, hxk, x0, x1, x2, x3, bs, be, bd⟩ := atRule hx1 hlt
        have HX := Lib.hid hxk
        have x0 := gro_keeps x0 os d
        have x1 := gro_keeps x1 os d
        have x2 := gro_keeps x2 os d
        have x3 := gro_keeps x3 os d
        have hki : (k : Int) < (rs.length : Int) := by omega
        clear hxk hx hx1
        subst hA
        by_cases a1 : r.Start ≤ off
        · have a1b : decide (r.Start ≤ off) = true := by simpa using a1
          by_cases a2 : off < r.End
          · have a2b : decide (off < r.End) = true := by simpa using a2
            go_wp2_with (fail)
            go_ret
            exact ⟨ret_int (by rw [← hE.out, ruleAt_at HX.out, if_pos ⟨a1, a2⟩]), hg1.trans gG⟩
          · have a2b : decide (off < r.End) = false := by simpa using a2
            go_wp2_with (fail)
            go_roundw
            case measure => (simp [intOf]; try omega)
            case rel => exact ⟨k + 1, by go_num, by omega, Lib.hid gG, Lib.hid (by rw [← hE.out, ruleAt_at HX.out, if_neg (by omega)])⟩
        · have a1b : decide (r.Start ≤ off) = false := by simpa using a1
          go_wp2_with (fail)
          go_roundw
          case measure => (simp [intOf]; try omega)
          case rel => exact ⟨k + 1, by go_num, by omega, Lib.hid gG, Lib.hid (by rw [← hE.out, ruleAt_at HX.out, if_neg (by omega)])⟩
      · have hki : ¬ ((k : Int) < (rs.length : Int)) := by omega
        go_wp2_with (fail)
        go_ret
        refine ⟨ret_int ?_, hg1.trans gG⟩
        rw [← hE.out, show k = rs.length from by omega, List.drop_length]
        rfl
set_option maxRecDepth 100000 in
set_option maxHeartbeats 3000000 in
theorem findRule_s {rs : List DRule} {off : Int} {w : World} {A : Option Addr} {c : Nat} (hx : (tRule.sl 254).R w w.heap.size [.slice A rs.length c] rs) (ho : I64 off) :
    Calls Tryz.prog 285 #[.slice A rs.length c, .int .i64 off] w fun e w' => e = .returned (.int .i64 (findRule rs off)) ∧ Gro w w' := by
  obtain ⟨_, _, hx', h1, h2⟩ := sl_at hx
  injection hx' with e1 e2 e3
  subst e1 e3
  clear e2
  obtain ⟨ho1, ho2⟩ := ho
  obtain ⟨q, hq⟩ : ∃ q, rulesG 0 rs = q := ⟨_, rfl⟩
  have HQ := Lib.hid hq
  cases q with
  | false =>
    have HF := Lib.hid (show findRule rs off = -1 from by unfold findRule; rw [hq]; rfl)
    clear hq
    go_enter Tryz.func285, Tryz.ntmps285
    go_wp2_with (go_at_call 247; (with_reducible refine (rulesOk_s (rs := rs) hx).mono ?_); rw [HQ.out]; rintro e w1 ⟨rfl, hg1⟩)
    go_loopw [6] (fun a wr => a = .int .i64 0 ∧ wr = w1) (fun _ _ => 0)
    case atStart => exact ⟨rfl, rfl⟩
    case round =>
      obtain ⟨rfl, rfl⟩ := hrel
      by_cases hn0 : (0 : Int) < (rs.length : Int)
      · go_wp2_with (fail)
        go_ret
        exact ⟨ret_int HF.out.symm, hg1⟩
      · go_wp2_with (fail)
        go_ret
        exact ⟨ret_int HF.out.symm, hg1⟩
  | true =>
    have HF := Lib.hid (show findRule rs off = ruleAt rs off 0 from by unfold findRule; rw [hq]; rfl)
    clear hq
    go_enter Tryz.func285, Tryz.ntmps285
    go_wp2_with (go_at_call 247; (with_reducible refine (rulesOk_s (rs := rs) hx).mono ?_); rw [HQ.out]; rintro e w1 ⟨rfl, hg1⟩)
    have hx1 := Ty.up _ hx hg1
    go_loopw [6] (fun a wr => ∃ k : Nat, a = .int .i64 k ∧ k ≤ rs.length ∧ Hid (Gro w1 wr) ∧ Hid (ruleAt (rs.drop k) off k = findRule rs off)) (fun a _ => rs.length - (intOf a).toNat)
    case atStart => exact ⟨0, rfl, Nat.zero_le _, Lib.hid (Gro.refl _), Lib.hid HF.out.symm⟩
    case round =>
      obtain ⟨k, rfl, hk, hG, hE⟩ := hrel
      obtain ⟨os, d, rfl⟩ := hG.out
      clear hG
      by_cases hlt : k < rs.length
      · obtain ⟨g, offx, r, hA, hgb, hxk, x0, x1, x2, x3, bs, be, bd⟩ := atRule hx1 hlt
        have HX := Lib.hid hxk
        have x0 := gro_keeps x0 os d
        have x1 := gro_keeps x1 os d
        have x2 := gro_keeps x2 os d
        have x3 := gro_keeps x3 os d
        have hki : (k : Int) < (rs.length : Int) := by omega
        clear hxk hx hx1
        subst hA
        by_cases a1 : r.Start ≤ off
        · have a1b : decide (r.Start ≤ off) = true := by simpa using a1
          by_cases a2 : off < r.End
          · have a2b : decide (off < r.End) = true := by simpa using a2
            go_wp2_with (fail)
            go_ret
            exact ⟨ret_int (by rw [← hE.out, ruleAt_at HX.out, if_pos ⟨a1, a2⟩]), hg1.trans gG⟩
          · have a2b : decide (off < r.End) = false := by simpa using a2
            go_wp2_with (fail)
            go_roundw
            case measure => (simp [intOf]; try omega)
            case rel => exact ⟨k + 1, by go_num, by omega, Lib.hid gG, Lib.hid (by rw [← hE.out, ruleAt_at HX.out, if_neg (by omega)])⟩
        · have a1b : decide (r.Start ≤ off) = false := by simpa using a1
          go_wp2_with (fail)
          go_roundw
          case measure => (simp [intOf]; try omega)
          case rel => exact ⟨k + 1, by go_num, by omega, Lib.hid gG, Lib.hid (by rw [← hE.out, ruleAt_at HX.out, if_neg (by omega)])⟩
      · have hki : ¬ ((k : Int) < (rs.length : Int)) := by omega
        go_wp2_with (fail)
        go_ret
        refine ⟨ret_int ?_, hg1.trans gG⟩
        rw [← hE.out, show k = rs.length from by omega, List.drop_length]
        rfl
end Go.Proofs.YtgodpjnbhmahaaaGreat
namespace Go.Proofs.YtgodpjnbhmahaaaGreat
open Go.RowKit
/-- a space is read in w -/
structure SpaceR (s : DSpace) (w : World) (A0 A1 A2 : Option Addr) (c0 c1 c2 : Nat) : Prop where
  i0 : (tImage.sl 113).R w w.heap.size [.slice A0 s.Images.length c0] s.Images
  i1 : (intT.sl 3).R w w.heap.size [.slice A1 s.Bases.length c1] s.Bases
  i2 : (intT.sl 3).R w w.heap.size [.slice A2 s.Entries.length c2] s.Entries
  ok : spaceOk s = true
  sz : szSpace s ≤ 1099511627776
theorem SpaceR.up {s : DSpace} {w w' : World} {A0 A1 A2 : Option Addr} {c0 c1 c2 : Nat} (h : SpaceR s w A0 A1 A2 c0 c1 c2) (hg : Gro w w') : SpaceR s w' A0 A1 A2 c0 c1 c2 :=
  ⟨Ty.up _ h.i0 hg, Ty.up _ h.i1 hg, Ty.up _ h.i2 hg, h.ok, h.sz⟩
/-- two lists of rules in a list of two -/
structure RulesR (w : World) (gr ov : Nat) (R0 R1 : List DRule) (B0 B1 : Option Addr) (d0 d1 : Nat) : Prop where
  k0 : w.cell? ⟨gr, ov, none⟩ = some (.slice B0 R0.length d0)
  k1 : w.cell? ⟨gr, ov + 1, none⟩ = some (.slice B1 R1.length d1)
  x0 : (tRule.sl 254).R w w.heap.size [.slice B0 R0.length d0] R0
  x1 : (tRule.sl 254).R w w.heap.size [.slice B1 R1.length d1] R1
theorem RulesR.up {w w' : World} {gr ov : Nat} {R0 R1 : List DRule} {B0 B1 : Option Addr} {d0 d1 : Nat} (h : RulesR w gr ov R0 R1 B0 B1 d0 d1) (hg : Gro w w') : RulesR w' gr ov R0 R1 B0 B1 d0 d1 :=
  ⟨grow_cell hg h.k0, grow_cell hg h.k1, Ty.up _ h.x0 hg, Ty.up _ h.x1 hg⟩
theorem RulesR.at {w : World} {gr ov : Nat} {R0 R1 : List DRule} {B0 B1 : Option Addr} {d0 d1 : Nat} (h : RulesR w gr ov R0 R1 B0 B1 d0 d1) {i : Nat} (hi : i < 2) : ∃ Bi di Ri, w.cell? ⟨gr, ov + i, none⟩ = some (.slice Bi (List.length Ri) di) ∧ (tRule.sl 254).R w w.heap.size [.slice Bi Ri.length di] Ri ∧ rulesI R0 R1 (i : Int) = Ri := by
  rcases (by omega : i = 0 ∨ i = 1) with rfl | rfl
  · exact ⟨B0, d0, R0, h.k0, h.x0, rfl⟩
  · exact ⟨B1, d1, R1, h.k1, h.x1, rfl⟩
theorem loc_two {s : DSpace} (hq : spaceOk s = true) (e : Int) : loc s e = (-1, -1) ∨ ∃ (i : Nat) (off : Int), i < 2 ∧ loc s e = ((i : Int), off) ∧ 0 ≤ off ∧ off < 1000000 := by
  rcases loc_res hq e with h | ⟨off, h, h1, h2, _⟩ | ⟨off, h, h1, h2, _⟩
  · exact .inl h
  · exact .inr ⟨0, off, by omega, h, h1, h2⟩
  · exact .inr ⟨1, off, by omega, h, h1, h2⟩
def RetStep (o : Option DView) (w : World) (r : Ending) (w' : World) : Prop := match o with
  | some x => ∃ B k, r = .returned (.tuple #[.agg #[.int .i64 x.Pc, .int .i64 x.Sp, .int .i64 x.Fp, .slice B x.Words.length k], .bool true]) ∧ Fresh tView w w' [.int .i64 x.Pc, .int .i64 x.Sp, .int .i64 x.Fp, .slice B x.Words.length k] x ∧ Gro w w'
  | none => r = .returned (.tuple #[.agg #[.int .i64 0, .int .i64 0, .int .i64 0, .slice none 0 0], .bool false]) ∧ Gro w w'
theorem RetStep.no {o : Option DView} {w w' : World} (ho : o = none) (h : Gro w w') : RetStep o w (.returned (.tuple #[.agg #[.int .i64 0, .int .i64 0, .int .i64 0, .slice none 0 0], .bool false])) w' := by
  subst ho
  exact ⟨rfl, h⟩
theorem RetStep.yes {o : Option DView} {x : DView} {w w' : World} {B : Option Addr} {k : Nat} (ho : o = some x) (hf : Fresh tView w w' [.int .i64 x.Pc, .int .i64 x.Sp, .int .i64 x.Fp, .slice B x.Words.length k] x) (h : Gro w w') :
    RetStep o w (.returned (.tuple #[.agg #[.int .i64 x.Pc, .int .i64 x.Sp, .int .i64 x.Fp, .slice B x.Words.length k], .bool true])) w' := by
  subst ho
  exact ⟨B, k, rfl, hf, h⟩
theorem unwStep_no {s : DSpace} {R0 R1 : List DRule} {v : DView} {inner : Bool} (h : loc s (if inner = true then v.Pc else v.Pc - 1) = (-1, -1)) : unwStep s R0 R1 v inner = none := by
  unfold unwStep
  simp only [h]
  rfl
theorem unwStep_far {s : DSpace} {R0 R1 : List DRule} {v : DView} {inner : Bool} {i : Nat} {off : Int} (h : loc s (if inner = true then v.Pc else v.Pc - 1) = ((i : Int), off)) (hf : findRule (rulesI R0 R1 (i : Int)) off = -1) : unwStep s R0 R1 v inner = none := by
  unfold unwStep
  simp only [h, hf]
  rw [if_neg (by omega)]
  split
  · rfl
  · rfl
theorem unwStep_by {s : DSpace} {R0 R1 : List DRule} {v : DView} {inner : Bool} {i j : Nat} {off : Int} {r : DRule} (h : loc s (if inner = true then v.Pc else v.Pc - 1) = ((i : Int), off)) (hf : findRule (rulesI R0 R1 (i : Int)) off = (j : Int)) (hj : (rulesI R0 R1 (i : Int))[j]? = some r) : unwStep s R0 R1 v inner = unwBy v r := by
  unfold unwStep
  simp only [h, hf, Int.toNat_natCast, hj]
  rw [if_neg (by omega), if_neg (by omega)]
theorem unwBy_plain {v : DView} {r : DRule} (hf : r.Frame = false) : unwBy v r = (wordOf v (v.Sp + r.Depth)).map (fun pc => unwTo v pc (v.Sp + r.Depth + 1) v.Fp) := by
  unfold unwBy
  rw [if_neg (by simp [hf])]
  cases wordOf v (v.Sp + r.Depth) <;> rfl
theorem unwBy_no {v : DView} {r : DRule} (hf : r.Frame = true) (h : wordOf v v.Fp = none) : unwBy v r = none := by
  unfold unwBy
  rw [if_pos hf, h]
theorem unwBy_frame {v : DView} {r : DRule} (hf : r.Frame = true) {f : Int} (h : wordOf v v.Fp = some f) : unwBy v r = (wordOf v (v.Fp + 1)).map (fun pc => unwTo v pc (v.Fp + 2) f) := by
  unfold unwBy
  rw [if_pos hf, h]
  cases wordOf v (v.Fp + 1) <;> rfl
theorem locI {s : DSpace} {e : Int} {w : World} {A0 A1 A2 : Option Addr} {c0 c1 c2 : Nat} (h : SpaceR s w A0 A1 A2 c0 c1 c2) (he : I64 e) : Calls Tryz.prog 263 #[.agg #[.slice A0 s.Images.length c0, .slice A1 s.Bases.length c1, .slice A2 s.Entries.length c2], .int .i64 e] w (RetTwo (loc s e) w) := by
  obtain ⟨h1, h2, h3, h4⟩ := spaceOk_parts h.ok
  exact locate_i (imgs := s.Images) (bases := s.Bases) (es := s.Entries) h.i0 h.i1 (by omega) (fun x hx => by have := h3 x hx; omega) h4 he
theorem locS {s : DSpace} {e : Int} {w : World} {A0 A1 A2 : Option Addr} {c0 c1 c2 : Nat} (h : SpaceR s w A0 A1 A2 c0 c1 c2) (he : I64 e) : Calls Tryz.prog 171 #[.agg #[.slice A0 s.Images.length c0, .slice A1 s.Bases.length c1, .slice A2 s.Entries.length c2], .int .i64 e] w (RetTwo (loc s e) w) := by
  obtain ⟨h1, h2, h3, h4⟩ := spaceOk_parts h.ok
  exact locate_s (imgs := s.Images) (bases := s.Bases) (es := s.Entries) h.i0 h.i1 (by omega) (fun x hx => by have := h3 x hx; omega) h4 he
set_option maxRecDepth 100000 in
set_option maxHeartbeats 2000000 in
theorem locSS {s : DSpace} {e : Int} {w : World} {A0 A1 A2 : Option Addr} {c0 c1 c2 : Nat} (h : SpaceR s w A0 A1 A2 c0 c1 c2) (he : I64 e) : Calls Tryz.prog 284 #[.agg #[.slice A0 s.Images.length c0, .slice A1 s.Bases.length c1, .slice A2 s.Entries.length c2], .int .i64 e] w (RetTwo (loc s e) w) := by
  have HQ := Lib.hid h.ok
  go_enter Tryz.func284, Tryz.ntmps284
  go_wp2_with (first
    | (go_at_call 76; (with_reducible refine (spaceOk_s (s := s) (h.up gG).i0 (h.up gG).i1 (h.up gG).i2 h.sz).mono ?_); rw [HQ.out]; rintro e w1 ⟨rfl, os1, d1, rfl⟩)
    | (go_at_call 171; (with_reducible refine (locS (s := s) (h.up gG) he).mono ?_); rintro e w2 ⟨rfl, os2, d2, rfl⟩))
  exact bodyPost_ret (v := .tuple #[.int .i64 (loc s e).1, .int .i64 (loc s e).2]) (by simp [results, Tryz.results284, go_sem]) rfl ⟨rfl, gG⟩
end Go.Proofs.YtgodpjnbhmahaaaGreat
namespace Go.Proofs.YtgodpjnbhmahaaaGreat
open Go.RowKit
def slLen : Value → Nat
  | .slice _ n _ => n
  | _ => 0
def RetUn (p : List Int × Bool) (w : World) (r : Ending) (w' : World) : Prop := ∃ A c S, r = .returned (.tuple #[.slice A p.1.length c, .bool p.2]) ∧ Has (intT.sl 3) w' [.slice A p.1.length c] p.1 S ∧ (∀ b ∈ S, w.heap.size ≤ b) ∧ Gro w w'
theorem RetUn.mk {p : List Int × Bool} {ys : List Int} {b : Bool} {w w' : World} {A : Option Addr} {n c : Nat} {S : List Nat} (h : Has (intT.sl 3) w' [.slice A n c] ys S) (he : p = (ys, b)) (hn : n = ys.length) (hS : ∀ b ∈ S, w.heap.size ≤ b) (hg : Gro w w') : RetUn p w (.returned (.tuple #[.slice A n c, .bool b])) w' := by
  subst he hn
  exact ⟨A, c, S, rfl, h, hS, hg⟩
theorem RetStep.out_no {w w' : World} {r : Ending} (h : RetStep none w r w') : r = .returned (.tuple #[.agg #[.int .i64 0, .int .i64 0, .int .i64 0, .slice none 0 0], .bool false]) ∧ Gro w w' := h
theorem RetStep.out_yes {x : DView} {w w' : World} {r : Ending} (h : RetStep (some x) w r w') : ∃ B k S, r = .returned (.tuple #[.agg #[.int .i64 x.Pc, .int .i64 x.Sp, .int .i64 x.Fp, .slice B x.Words.length k], .bool true]) ∧ Has (intT.sl 3) w' [.slice B x.Words.length k] x.Words S ∧ (∀ b ∈ S, w.heap.size ≤ b) ∧ I64 x.Pc ∧ Gro w w' := by
  obtain ⟨B, k, h1, h2, h3⟩ := h
  obtain ⟨S, ⟨h4, h5⟩, h6⟩ := Fresh.has h2
  obtain ⟨A', c', S', e, rfl, g1, g2, g3, g4⟩ := tView_O h4
  injection e with _ e
  injection e with _ e
  injection e with _ e
  injection e with e _
  injection e with e1 e2 e3
  subst e1 e3
  exact ⟨B, k, _, h1, ⟨g4, h5⟩, h6, g1, h3⟩
/-- the words of a view: those of w, or the call's own -/
def WordsAt (w wr : World) (S : List Nat) (v : Value) (xs : List Int) : Prop := (intT.sl 3).R w w.heap.size [v] xs ∨ ∃ Sw, Has (intT.sl 3) wr [v] xs Sw ∧ ∀ b ∈ S, b ∉ Sw
theorem WordsAt.read {w wr : World} {S : List Nat} {v : Value} {xs : List Int} (h : WordsAt w wr S v xs) (hg : Gro w wr) : (intT.sl 3).R wr wr.heap.size [v] xs := by
  rcases h with h | ⟨_, h, _⟩
  · exact Ty.up _ h hg
  · exact h.read
theorem int_one {W : World} {g : Nat} {x : Int} {e : TypeId} (h : W.heap[g]? = some (.cells #[.int .i64 x] e (0, 0))) (hx : I64 x) : Has (intT.sl e) W [.slice (some ⟨g, 0, none⟩) 1 1] [x] [g] :=
  ⟨own_made (T := intT) (xs := [x]) h ⟨[.int .i64 x], [], [], [], rfl, rfl, ⟨rfl, hx.1, hx.2, rfl⟩, rfl, rfl⟩ (by simp), by simp⟩
theorem Small.i64 {x : Int} (h : Small x) : I64 x := ⟨by have := h.1; omega, by have := h.2; omega⟩
theorem unwGo_zero {s : DSpace} {R0 R1 : List DRule} {n : Nat} {ys : List Int} {x : DView} (hn : n = 0) : unwGo s R0 R1 n ys x = (ys, false) := by
  subst hn
  rfl
theorem unwGo_no {s : DSpace} {R0 R1 : List DRule} {n : Nat} {ys : List Int} {x : DView} (hn : 0 < n) (h : unwStep s R0 R1 x (decide (ys.length = 1)) = none) : unwGo s R0 R1 n ys x = (ys, false) := by
  obtain ⟨m, rfl⟩ : ∃ m, n = m + 1 := ⟨n - 1, by omega⟩
  rw [unwGo, h]
theorem unwGo_end {s : DSpace} {R0 R1 : List DRule} {n : Nat} {ys : List Int} {x y : DView} (hn : 0 < n) (h : unwStep s R0 R1 x (decide (ys.length = 1)) = some y) (hy : y.Pc = 0) : unwGo s R0 R1 n ys x = (ys, true) := by
  obtain ⟨m, rfl⟩ : ∃ m, n = m + 1 := ⟨n - 1, by omega⟩
  rw [unwGo, h]
  simp only [hy, if_true]
theorem unwGo_more {s : DSpace} {R0 R1 : List DRule} {n m : Nat} {ys : List Int} {x y : DView} (hn : n = m + 1) (h : unwStep s R0 R1 x (decide (ys.length = 1)) = some y) (hy : y.Pc ≠ 0) : unwGo s R0 R1 n ys x = unwGo s R0 R1 m (ys ++ [y.Pc]) y := by
  subst hn
  rw [unwGo, h]
  simp only [if_neg hy]
theorem unwStep_in {s : DSpace} {R0 R1 : List DRule} {v v' : DView} {inner : Bool} (hv : viewIn v) (h : unwStep s R0 R1 v inner = some v') : viewIn v' := by
  unfold unwStep at h
  generalize (if inner = true then v.Pc else v.Pc - 1) = e at h
  simp only at h
  split at h
  · cases h
  · split at h
    · cases h
    · split at h
      · cases h
      · exact unwBy_in hv h
end Go.Proofs.YtgodpjnbhmahaaaGreat
namespace Go.Proofs.YtgodpjnbhmahaaaGreat
open Go.RowKit
def framesOf (a : DAgent) (e : Int) (start : Bool) : Option (List DFrame) :=
  if (loc a.Space e).1 < 0 then none
  else match a.Debugs[(loc a.Space e).1.toNat]? with
    | none => none
    | some d => framesAt d (loc a.Space e).2 start
theorem framesOf_no {a : DAgent} {e : Int} {start : Bool} (h : loc a.Space e = (-1, -1)) : framesOf a e start = none := by
  unfold framesOf
  rw [h]
  rfl
theorem framesOf_at {a : DAgent} {e : Int} {start : Bool} {i : Nat} {off : Int} {d : DDebug} (h : loc a.Space e = ((i : Int), off)) (hd : a.Debugs[i]? = some d) : framesOf a e start = framesAt d off start := by
  unfold framesOf
  rw [h]
  simp only [Int.toNat_natCast, hd]
  rw [if_neg (by omega)]
/-- an agent is read in w -/
structure AgentR (a : DAgent) (w : World) (A0 A1 A2 A3 : Option Addr) (c0 c1 c2 c3 : Nat) : Prop where
  sp : SpaceR a.Space w A0 A1 A2 c0 c1 c2
  db : (tDebug.sl 97).R w w.heap.size [.slice A3 a.Debugs.length c3] a.Debugs
  two : a.Debugs.length = 2
  hn : ∀ d ∈ a.Debugs, d.Inlines.length ≤ 1048576
theorem AgentR.up {a : DAgent} {w w' : World} {A0 A1 A2 A3 : Option Addr} {c0 c1 c2 c3 : Nat} (h : AgentR a w A0 A1 A2 A3 c0 c1 c2 c3) (hg : Gro w w') : AgentR a w' A0 A1 A2 A3 c0 c1 c2 c3 :=
  ⟨h.sp.up hg, Ty.up _ h.db hg, h.two, h.hn⟩
theorem framesOf_len {a : DAgent} {e : Int} {start : Bool} {xs : List DFrame} (hn : ∀ d ∈ a.Debugs, d.Inlines.length ≤ 1048576) (h : framesOf a e start = some xs) : xs.length ≤ 1048577 := by
  unfold framesOf at h
  split at h
  · cases h
  · split at h
    · cases h
    · rename_i d hd
      have h1 := framesAt_len h
      have h2 := hn d (List.mem_of_getElem? hd)
      omega
theorem framesOf_low {a : DAgent} {e : Int} {start : Bool} (hq : spaceOk a.Space = true) (he : e < 1) : framesOf a e start = none := framesOf_no (loc_no hq he)
theorem RetFr.up {o : Option (List DFrame)} {w w1 : World} {r : Ending} {w' : World} (h : RetFr o w1 r w') (hg : Gro w w1) : RetFr o w r w' := by
  obtain ⟨A, c, S, h1, h2, h3, h4⟩ := h
  exact ⟨A, c, S, h1, h2, fun b hb => Nat.le_trans hg.size (h3 b hb), hg.trans h4⟩
/-- the frames of the k-th address -/
def fAt (a : DAgent) (start : Bool) (k : Nat) (e : Int) : Option (List DFrame) := framesOf a (if k = 0 then e else e - 1) (start && decide (k = 0))
def knownGo (a : DAgent) (start : Bool) : List Int → Nat → List (List DFrame)
  | [], _ => []
  | e :: es, k => match fAt a start k e with
    | none => []
    | some f => f :: knownGo a start es (k + 1)
def valsGo (a : DAgent) (start : Bool) : List Int → Nat → List (List DFrame)
  | [], _ => []
  | e :: es, k => (fAt a start k e).getD [] :: valsGo a start es (k + 1)
def allGo (a : DAgent) (start : Bool) : List Int → Nat → Bool
  | [], _ => true
  | e :: es, k => (fAt a start k e).isSome && allGo a start es (k + 1)
theorem known_all {a : DAgent} {start : Bool} : ∀ (es : List Int) (k : Nat), (allGo a start es k = true ∧ knownGo a start es k = valsGo a start es k ∧ (knownGo a start es k).length = es.length) ∨ (allGo a start es k = false ∧ (knownGo a start es k).length < es.length)
  | [], _ => .inl ⟨rfl, rfl, rfl⟩
  | e :: es, k => by
    cases h : fAt a start k e with
    | none => exact .inr ⟨by simp [allGo, h], by simp [knownGo, h]⟩
    | some f =>
      rcases known_all (a := a) (start := start) es (k + 1) with ⟨h1, h2, h3⟩ | ⟨h1, h2⟩
      · exact .inl ⟨by simp [allGo, h, h1], by simp [knownGo, valsGo, h, h2], by simp [knownGo, h, h3]⟩
      · exact .inr ⟨by simp [allGo, h, h1], by simp [knownGo, h, h2]⟩
theorem knownGo_len {a : DAgent} {start : Bool} : ∀ (es : List Int) (k : Nat), (knownGo a start es k).length ≤ es.length
  | [], _ => Nat.le_refl _
  | e :: es, k => by
    cases h : fAt a start k e with
    | none => simp [knownGo, h]
    | some f => simpa [knownGo, h] using knownGo_len es (k + 1)
theorem knownGo_no {a : DAgent} {start : Bool} {es : List Int} {k : Nat} {e : Int} (h : es[k]? = some e) (hf : fAt a start k e = none) : knownGo a start (es.drop k) k = [] := by
  obtain ⟨h1, rfl⟩ := List.getElem?_eq_some_iff.1 h
  rw [List.drop_eq_getElem_cons h1, knownGo, hf]
theorem knownGo_yes {a : DAgent} {start : Bool} {es : List Int} {k : Nat} {e : Int} {f : List DFrame} (h : es[k]? = some e) (hf : fAt a start k e = some f) : knownGo a start (es.drop k) k = f :: knownGo a start (es.drop (k + 1)) (k + 1) := by
  obtain ⟨h1, rfl⟩ := List.getElem?_eq_some_iff.1 h
  rw [List.drop_eq_getElem_cons h1, knownGo, hf]
theorem valsGo_at {a : DAgent} {start : Bool} {es : List Int} {k : Nat} {e : Int} (h : es[k]? = some e) : valsGo a start (es.drop k) k = (fAt a start k e).getD [] :: valsGo a start (es.drop (k + 1)) (k + 1) := by
  obtain ⟨h1, rfl⟩ := List.getElem?_eq_some_iff.1 h
  rw [List.drop_eq_getElem_cons h1, valsGo]
theorem allGo_at {a : DAgent} {start : Bool} {es : List Int} {k : Nat} {e : Int} (h : es[k]? = some e) : allGo a start (es.drop k) k = ((fAt a start k e).isSome && allGo a start (es.drop (k + 1)) (k + 1)) := by
  obtain ⟨h1, rfl⟩ := List.getElem?_eq_some_iff.1 h
  rw [List.drop_eq_getElem_cons h1, allGo]
/-- lists, the last one first, one behind the other -/
def outw (l : List (List DFrame)) : List DFrame := l.reverse.flatten
theorem outw_cons (f : List DFrame) (l : List (List DFrame)) : outw (f :: l) = outw l ++ f := by simp [outw]
def rulesA (a : DAgent) (i : Nat) : List DRule := (a.Debugs[i]?.map DDebug.Rules).getD []
def unwA (a : DAgent) (x : DSample) : List Int × Bool := unwind a.Space (rulesA a 0) (rulesA a 1) x.View
def stackOf (a : DAgent) (x : DSample) (start : Bool) : List DFrame × Bool := if agentOk a = true ∧ sampleOk x = true ∧ (unwA a x).2 = true ∧ allGo a start (unwA a x).1 0 = true then (outw (valsGo a start (unwA a x).1 0), true) else ([], false)
theorem fAt_len {a : DAgent} {start : Bool} {k : Nat} {e : Int} {xs : List DFrame} (hn : ∀ d ∈ a.Debugs, d.Inlines.length ≤ 1048576) (h : fAt a start k e = some xs) : xs.length ≤ 1048577 := framesOf_len hn h
theorem fAt_getD_len {a : DAgent} {start : Bool} {k : Nat} {e : Int} (hn : ∀ d ∈ a.Debugs, d.Inlines.length ≤ 1048576) : ((fAt a start k e).getD []).length ≤ 1048577 := by
  cases h : fAt a start k e with
  | none => exact Nat.zero_le _
  | some f => exact fAt_len hn h
theorem unwGo_len {s : DSpace} {R0 R1 : List DRule} : ∀ (n : Nat) (ys : List Int) (x : DView), (unwGo s R0 R1 n ys x).1.length ≤ ys.length + n
  | 0, ys, _ => Nat.le_refl _
  | n + 1, ys, x => by
    unfold unwGo
    split
    · simp
    · rename_i y _
      split
      · simp
      · have h := unwGo_len (s := s) (R0 := R0) (R1 := R1) n (ys ++ [y.Pc]) y
        rw [List.length_append] at h
        simpa [Nat.add_assoc, Nat.add_comm 1] using h
theorem unwGo_small {s : DSpace} {R0 R1 : List DRule} : ∀ (n : Nat) (ys : List Int) (x : DView), viewIn x → (∀ y ∈ ys, Small y) → ∀ y ∈ (unwGo s R0 R1 n ys x).1, Small y
  | 0, ys, _, _, h => h
  | n + 1, ys, x, hx, h => by
    unfold unwGo
    split
    · exact h
    · rename_i y hy
      have hv := unwStep_in hx hy
      split
      · exact h
      · refine unwGo_small n _ _ hv (fun z hz => ?_)
        rcases List.mem_append.1 hz with h1 | h1
        · exact h z h1
        · simp only [List.mem_singleton] at h1
          subst h1
          exact hv.2.1
theorem unwind_small {s : DSpace} {R0 R1 : List DRule} {v : DView} (hv : viewIn v) : ∀ y ∈ (unwind s R0 R1 v).1, Small y :=
  unwGo_small 39 _ _ hv (fun y hy => by simp only [List.mem_singleton] at hy; subst hy; exact hv.2.1)
theorem unwind_len {s : DSpace} {R0 R1 : List DRule} {v : DView} : (unwind s R0 R1 v).1.length ≤ 40 := unwGo_len 39 _ _
end Go.Proofs.YtgodpjnbhmahaaaGreat
namespace Go.Proofs.YtgodpjnbhmahaaaGreat
open Go.RowKit
set_option maxRecDepth 100000 in
set_option maxHeartbeats 4000000 in
theorem symAt_i {i : DImage} {off : Int} {w : World} {A : Option Addr} {c : Nat} (h1 : (tSymbol.sl 193).R w w.heap.size [.slice A i.Symbols.length c] i.Symbols) (ho : I64 off) :
    Calls Tryz.prog 339 #[.agg #[.string i.Code, .slice A i.Symbols.length c], .int .i64 off] w fun r w' => r = .returned (.int .i64 (symGo i.Symbols off 0)) ∧ Gro w w' := by
  obtain ⟨_, _, hx', hxl, hcm⟩ := sl_at h1
  injection hx' with e1 e2 e3
  subst e1 e3
  clear e2
  obtain ⟨code, syms⟩ := i
  simp only at h1 hxl hcm ⊢
  obtain ⟨ho1, ho2⟩ := ho
  go_enter Tryz.func339, Tryz.ntmps339
  go_wp2_with (fail)
  have hG0 : Gro w (w.alloc (.cells #[.string code, .slice A syms.length c] 113)) := gG
  have eb := heap_alloc_new w (.cells #[.string code, .slice A syms.length c] 113)
  have h2 := Ty.up _ h1 hG0
  obtain ⟨g0, hg0⟩ : ∃ g0, w.heap.size = g0 := ⟨_, rfl⟩
  rw [hg0] at eb ⊢
  generalize w.alloc (.cells #[.string code, .slice A syms.length c] 113) = Y at hG0 eb h2 ⊢
  clear h1 hg0
  obtain ⟨y0, y1, _, _, yl⟩ := box2 eb
  go_loopw [10] (fun x wr => ∃ (j : Nat), x = .int .i64 j ∧ j ≤ syms.length ∧ Hid (symGo (syms.drop j) off j = symGo syms off 0) ∧ Hid (Gro Y wr)) (fun y _ => syms.length - (intOf y).toNat)
  case atStart => exact ⟨0, rfl, Nat.zero_le _, Lib.hid rfl, Lib.hid (Gro.refl _)⟩
  case round =>
    obtain ⟨j, rfl, hj, hE, hG⟩ := hrel
    obtain ⟨os, d, rfl⟩ := hG.out
    clear hG
    by_cases hlt : j < syms.length
    · obtain ⟨g, offs, x, rfl, hgb, hxk, hx0, hx1, hx2, bx0, bx1, bx2⟩ := atSymbol h2 hlt
      have hF := symGo_at hxk off
      rw [hE.out] at hF
      have hc0 := gro_keeps hx0 os d
      have hc1 := gro_keeps hx1 os d
      have hc2 := gro_keeps hx2 os d
      have z0 := gro_keeps y0 os d
      have z1 := gro_keeps y1 os d
      have hji : (j : Int) < (syms.length : Int) := by omega
      clear hE hxk
      obtain ⟨nm, st, sz⟩ := x
      simp only at hF hc0 hc1 hc2
      have hno : symHit ⟨nm, st, sz⟩ off = false → symGo (syms.drop (j + 1)) off (j + 1) = symGo syms off 0 := fun h => by rw [hF, h]; rfl
      have hyes : symHit ⟨nm, st, sz⟩ off = true → symGo syms off 0 = (j : Int) := fun h => by rw [hF, h]; rfl
      clear hF
      obtain ⟨b0, hb0⟩ : ∃ b, btw st 0 1000000 = b := ⟨_, rfl⟩
      obtain ⟨b1, hb1⟩ : ∃ b, btw sz 0 1000000 = b := ⟨_, rfl⟩
      have HB0 := Lib.hid hb0
      have HB1 := Lib.hid hb1
      cases b0 with
      | false =>
        have HE := Lib.hid (hno (by simp [symHit, hb0]))
        clear hno hyes hb0 hb1
        go_wp2_with (go_at_call 73; (with_reducible refine (in_i _ _ _ _).mono ?_); rw [HB0.out]; rintro e w1 ⟨rfl, rfl⟩)
        go_roundw
        case measure => (simp [intOf]; try omega)
        case rel => exact ⟨j + 1, by go_num, by omega, HE, Lib.hid gG⟩
      | true =>
        cases b1 with
        | false =>
          have HE := Lib.hid (hno (by simp [symHit, hb1]))
          clear hno hyes hb0 hb1
          go_wp2_with (go_at_call 73; (with_reducible refine (in_i _ _ _ _).mono ?_); first | (rw [HB0.out]; rintro e w1 ⟨rfl, rfl⟩) | (rw [HB1.out]; rintro e w1 ⟨rfl, rfl⟩))
          go_roundw
          case measure => (simp [intOf]; try omega)
          case rel => exact ⟨j + 1, by go_num, by omega, HE, Lib.hid gG⟩
        | true =>
          have r0 := btw_iff.1 hb0
          have r1 := btw_iff.1 hb1
          have w1 : IntKind.i64.wrap (st + sz) = st + sz := IntWalk.i64_in _ ⟨by omega, by omega⟩
          by_cases q2 : st ≤ off
          case neg =>
            have s2 : decide (st ≤ off) = false := decide_eq_false q2
            have HE := Lib.hid (hno (by simp [symHit, q2]))
            clear hno hyes hb0 hb1
            go_wp2_with (go_at_call 73; (with_reducible refine (in_i _ _ _ _).mono ?_); first | (rw [HB0.out]; rintro e w1 ⟨rfl, rfl⟩) | (rw [HB1.out]; rintro e w1 ⟨rfl, rfl⟩))
            go_roundw
            case measure => (simp [intOf]; try omega)
            case rel => exact ⟨j + 1, by go_num, by omega, HE, Lib.hid gG⟩
          have s2 : decide (st ≤ off) = true := decide_eq_true q2
          by_cases q3 : off < st + sz
          case neg =>
            have s3 : decide (off < st + sz) = false := decide_eq_false q3
            have HE := Lib.hid (hno (by simp [symHit, q3]))
            clear hno hyes hb0 hb1
            go_wp2_with (go_at_call 73; (with_reducible refine (in_i _ _ _ _).mono ?_); first | (rw [HB0.out]; rintro e w1 ⟨rfl, rfl⟩) | (rw [HB1.out]; rintro e w1 ⟨rfl, rfl⟩))
            go_roundw
            case measure => (simp [intOf]; try omega)
            case rel => exact ⟨j + 1, by go_num, by omega, HE, Lib.hid gG⟩
          have s3 : decide (off < st + sz) = true := decide_eq_true q3
          have HE := Lib.hid (hyes (by simp [symHit, q2, q3, hb0, hb1]))
          clear hno hyes hb0 hb1
          go_wp2_with (go_at_call 73; (with_reducible refine (in_i _ _ _ _).mono ?_); first | (rw [HB0.out]; rintro e w1 ⟨rfl, rfl⟩) | (rw [HB1.out]; rintro e w1 ⟨rfl, rfl⟩))
          go_ret
          exact ⟨ret_int HE.out.symm, hG0.trans gF⟩
    · obtain rfl : j = syms.length := by omega
      have HQ := Lib.hid (show symGo syms off 0 = -1 from by rw [← hE.out, List.drop_length]; rfl)
      have z0 := gro_keeps y0 os d
      have z1 := gro_keeps y1 os d
      clear hE
      go_wp2_with (fail)
      go_ret
      exact ⟨ret_int HQ.out.symm, hG0.trans gF⟩
end Go.Proofs.YtgodpjnbhmahaaaGreat
namespace Go.Proofs.YtgodpjnbhmahaaaGreat
open Go.RowKit
set_option maxRecDepth 100000 in
set_option maxHeartbeats 4000000 in
theorem framesAt_i {d : DDebug} {off : Int} {start : Bool} {w : World} {A0 A1 A2 A3 : Option Addr} {c0 c1 c2 c3 : Nat} (hd : DebugR d w A0 A1 A2 A3 c0 c1 c2 c3) (ho : I64 off) :
    Calls Tryz.prog 282 #[.agg #[.int .i64 d.Id, .slice A0 d.Symbols.length c0, .slice A1 d.Rules.length c1, .slice A2 d.Rows.length c2, .slice A3 d.Inlines.length c3], .int .i64 off, .bool start] w (RetFr (framesAt d off start) w) := by
  obtain ⟨_, _, hx', hxl, hcm⟩ := sl_at hd.s
  injection hx' with e1 e2 e3
  subst e1 e3
  clear e2
  obtain ⟨_, _, hx', hrl, hrm⟩ := sl_at hd.r
  injection hx' with e1 e2 e3
  subst e1 e3
  clear e2
  have hil := hd.hn
  rcases symAt_res d.Symbols off with h | ⟨j, s, hs, h⟩
  · have HQ := Lib.hid h
    have HF := Lib.hid (framesAt_sym (d := d) (off := off) (start := start) h)
    obtain ⟨fr, hfr⟩ : ∃ fr, findRow d.Rows off = fr := ⟨_, rfl⟩
    have HR := Lib.hid hfr
    clear h hfr
    go_enter Tryz.func282, Tryz.ntmps282
    go_upto_region 1 with (fail)
    have hgr : Gro w (w.alloc (.cells #[.int .i64 d.Id, .slice A0 d.Symbols.length c0, .slice A1 d.Rules.length c1, .slice A2 d.Rows.length c2, .slice A3 d.Inlines.length c3] 97)) := gG
    have eb := heap_alloc_new w (.cells #[.int .i64 d.Id, .slice A0 d.Symbols.length c0, .slice A1 d.Rules.length c1, .slice A2 d.Rows.length c2, .slice A3 d.Inlines.length c3] 97)
    obtain ⟨g0, hg0⟩ : ∃ g0, w.heap.size = g0 := ⟨_, rfl⟩
    have hwg : w.heap.size ≤ g0 := by omega
    rw [hg0] at eb ⊢
    generalize w.alloc (.cells #[.int .i64 d.Id, .slice A0 d.Symbols.length c0, .slice A1 d.Rules.length c1, .slice A2 d.Rows.length c2, .slice A3 d.Inlines.length c3] 97) = Y at hgr eb ⊢
    clear hg0
    obtain ⟨y0, y1, y2, y3, y4, _⟩ := row5 eb
    have hgY : g0 < Y.heap.size := (Array.getElem?_eq_some_iff.1 eb).1
    clear eb
    go_wp2_with (first | (go_at_call 339; (with_reducible refine (symAt_i (i := ⟨⟨#[]⟩, d.Symbols⟩) (off := off) (hd.up hgr).s ho).mono ?_); rw [HQ.out]; rintro e v1 ⟨rfl, hg⟩; have y0 := grow_cell hg y0; have y1 := grow_cell hg y1; have y2 := grow_cell hg y2; have y3 := grow_cell hg y3; have y4 := grow_cell hg y4; have hgY := Nat.lt_of_lt_of_le hgY hg.size; have hgr := hgr.trans hg) | (go_at_call 340; (with_reducible refine (findRow_i (rs := d.Rows) (off := off) (hd.up hgr).r).mono ?_); rw [HR.out]; rintro e v1 ⟨rfl, hg⟩; have y0 := grow_cell hg y0; have y1 := grow_cell hg y1; have y2 := grow_cell hg y2; have y3 := grow_cell hg y3; have y4 := grow_cell hg y4; have hgY := Nat.lt_of_lt_of_le hgY hg.size; have hgr := hgr.trans hg))
    exact bodyPost_ret (v := .tuple #[.slice none 0 0, .bool false]) (by simp [results, Tryz.results282, go_sem]) rfl (RetFr.nil HF.out (hgr.trans gG))
  rcases findRow_res d.Rows off with h' | ⟨i, r, hr, h'⟩
  · have HQ := Lib.hid h
    have HR := Lib.hid h'
    have HF := Lib.hid (framesAt_row (d := d) (off := off) (start := start) h')
    have hj0 : ¬ ((j : Int) < 0) := by omega
    have hj1 : (0 : Int) ≤ (j : Int) := by omega
    clear h h' hs
    go_enter Tryz.func282, Tryz.ntmps282
    go_upto_region 1 with (fail)
    have hgr : Gro w (w.alloc (.cells #[.int .i64 d.Id, .slice A0 d.Symbols.length c0, .slice A1 d.Rules.length c1, .slice A2 d.Rows.length c2, .slice A3 d.Inlines.length c3] 97)) := gG
    have eb := heap_alloc_new w (.cells #[.int .i64 d.Id, .slice A0 d.Symbols.length c0, .slice A1 d.Rules.length c1, .slice A2 d.Rows.length c2, .slice A3 d.Inlines.length c3] 97)
    obtain ⟨g0, hg0⟩ : ∃ g0, w.heap.size = g0 := ⟨_, rfl⟩
    have hwg : w.heap.size ≤ g0 := by omega
    rw [hg0] at eb ⊢
    generalize w.alloc (.cells #[.int .i64 d.Id, .slice A0 d.Symbols.length c0, .slice A1 d.Rules.length c1, .slice A2 d.Rows.length c2, .slice A3 d.Inlines.length c3] 97) = Y at hgr eb ⊢
    clear hg0
    obtain ⟨y0, y1, y2, y3, y4, _⟩ := row5 eb
    have hgY : g0 < Y.heap.size := (Array.getElem?_eq_some_iff.1 eb).1
    clear eb
    go_wp2_with (first | (go_at_call 339; (with_reducible refine (symAt_i (i := ⟨⟨#[]⟩, d.Symbols⟩) (off := off) (hd.up hgr).s ho).mono ?_); rw [HQ.out]; rintro e v1 ⟨rfl, hg⟩; have y0 := grow_cell hg y0; have y1 := grow_cell hg y1; have y2 := grow_cell hg y2; have y3 := grow_cell hg y3; have y4 := grow_cell hg y4; have hgY := Nat.lt_of_lt_of_le hgY hg.size; have hgr := hgr.trans hg) | (go_at_call 340; (with_reducible refine (findRow_i (rs := d.Rows) (off := off) (hd.up hgr).r).mono ?_); rw [HR.out]; rintro e v1 ⟨rfl, hg⟩; have y0 := grow_cell hg y0; have y1 := grow_cell hg y1; have y2 := grow_cell hg y2; have y3 := grow_cell hg y3; have y4 := grow_cell hg y4; have hgY := Nat.lt_of_lt_of_le hgY hg.size; have hgr := hgr.trans hg))
    exact bodyPost_ret (v := .tuple #[.slice none 0 0, .bool false]) (by simp [results, Tryz.results282, go_sem]) rfl (RetFr.nil HF.out (hgr.trans gG))
  have hrl' := (List.getElem?_eq_some_iff.1 hr).1
  have HRR := Lib.hid hr
  have HQ := Lib.hid h
  have HR := Lib.hid h'
  cases start with
  | true =>
    obtain ⟨q, hq⟩ : ∃ q, isStart d.Rows off = q := ⟨_, rfl⟩
    have HI := Lib.hid hq
    cases q with
    | false =>
      have HF := Lib.hid (framesAt_start (d := d) (off := off) hq)
      have hj0 : ¬ ((j : Int) < 0) := by omega
      have hj1 : (0 : Int) ≤ (j : Int) := by omega
      have hi0 : ¬ ((i : Int) < 0) := by omega
      have hi1 : (0 : Int) ≤ (i : Int) := by omega
      clear h h' hs hq hr
      go_enter Tryz.func282, Tryz.ntmps282
      go_upto_region 1 with (fail)
      have hgr : Gro w (w.alloc (.cells #[.int .i64 d.Id, .slice A0 d.Symbols.length c0, .slice A1 d.Rules.length c1, .slice A2 d.Rows.length c2, .slice A3 d.Inlines.length c3] 97)) := gG
      have eb := heap_alloc_new w (.cells #[.int .i64 d.Id, .slice A0 d.Symbols.length c0, .slice A1 d.Rules.length c1, .slice A2 d.Rows.length c2, .slice A3 d.Inlines.length c3] 97)
      obtain ⟨g0, hg0⟩ : ∃ g0, w.heap.size = g0 := ⟨_, rfl⟩
      have hwg : w.heap.size ≤ g0 := by omega
      rw [hg0] at eb ⊢
      generalize w.alloc (.cells #[.int .i64 d.Id, .slice A0 d.Symbols.length c0, .slice A1 d.Rules.length c1, .slice A2 d.Rows.length c2, .slice A3 d.Inlines.length c3] 97) = Y at hgr eb ⊢
      clear hg0
      obtain ⟨y0, y1, y2, y3, y4, _⟩ := row5 eb
      have hgY : g0 < Y.heap.size := (Array.getElem?_eq_some_iff.1 eb).1
      clear eb
      go_wp2_with (first | (go_at_call 339; (with_reducible refine (symAt_i (i := ⟨⟨#[]⟩, d.Symbols⟩) (off := off) (hd.up hgr).s ho).mono ?_); rw [HQ.out]; rintro e v1 ⟨rfl, hg⟩; have y0 := grow_cell hg y0; have y1 := grow_cell hg y1; have y2 := grow_cell hg y2; have y3 := grow_cell hg y3; have y4 := grow_cell hg y4; have hgY := Nat.lt_of_lt_of_le hgY hg.size; have hgr := hgr.trans hg) | (go_at_call 340; (with_reducible refine (findRow_i (rs := d.Rows) (off := off) (hd.up hgr).r).mono ?_); rw [HR.out]; rintro e v1 ⟨rfl, hg⟩; have y0 := grow_cell hg y0; have y1 := grow_cell hg y1; have y2 := grow_cell hg y2; have y3 := grow_cell hg y3; have y4 := grow_cell hg y4; have hgY := Nat.lt_of_lt_of_le hgY hg.size; have hgr := hgr.trans hg) | (go_at_call 341; (with_reducible refine (isStart_i (rs := d.Rows) (off := off) (hd.up hgr).r).mono ?_); rw [HI.out]; rintro e v1 ⟨rfl, hg⟩; have y0 := grow_cell hg y0; have y1 := grow_cell hg y1; have y2 := grow_cell hg y2; have y3 := grow_cell hg y3; have y4 := grow_cell hg y4; have hgY := Nat.lt_of_lt_of_le hgY hg.size; have hgr := hgr.trans hg))
      exact bodyPost_ret (v := .tuple #[.slice none 0 0, .bool false]) (by simp [results, Tryz.results282, go_sem]) rfl (RetFr.nil HF.out (hgr.trans gG))
    | true =>
      have HF := Lib.hid (framesAt_yes (d := d) (off := off) (start := true) h h' (fun _ => hq) hs hr)
      clear h h' hq hr
      go_enter Tryz.func282, Tryz.ntmps282
      go_upto_region 1 with (fail)
      have hgr : Gro w (w.alloc (.cells #[.int .i64 d.Id, .slice A0 d.Symbols.length c0, .slice A1 d.Rules.length c1, .slice A2 d.Rows.length c2, .slice A3 d.Inlines.length c3] 97)) := gG
      have eb := heap_alloc_new w (.cells #[.int .i64 d.Id, .slice A0 d.Symbols.length c0, .slice A1 d.Rules.length c1, .slice A2 d.Rows.length c2, .slice A3 d.Inlines.length c3] 97)
      obtain ⟨g0, hg0⟩ : ∃ g0, w.heap.size = g0 := ⟨_, rfl⟩
      have hwg : w.heap.size ≤ g0 := by omega
      rw [hg0] at eb ⊢
      generalize w.alloc (.cells #[.int .i64 d.Id, .slice A0 d.Symbols.length c0, .slice A1 d.Rules.length c1, .slice A2 d.Rows.length c2, .slice A3 d.Inlines.length c3] 97) = Y at hgr eb ⊢
      clear hg0
      obtain ⟨y0, y1, y2, y3, y4, _⟩ := row5 eb
      have hgY : g0 < Y.heap.size := (Array.getElem?_eq_some_iff.1 eb).1
      clear eb
      have hsl := (List.getElem?_eq_some_iff.1 hs).1
      obtain ⟨gs, os_, s', hAs, hgsb, hsk, s0, s1, s2, bn, bs1, bs2⟩ := atSymbol (hd.up hgr).s hsl
      have hss : s' = s := by rw [hs] at hsk; injection hsk with hsk; exact hsk.symm
      subst hss
      have hji : (j : Int) < (d.Symbols.length : Int) := by omega
      have hj0 : ¬ ((j : Int) < 0) := by omega
      have hj1 : (0 : Int) ≤ (j : Int) := by omega
      have hii : (i : Int) < (d.Rows.length : Int) := by omega
      have hi0 : ¬ ((i : Int) < 0) := by omega
      have hi1 : (0 : Int) ≤ (i : Int) := by omega
      subst hAs
      clear hs hsk s1 s2
      go_wp2_with (first | (go_at_call 339; (with_reducible refine (symAt_i (i := ⟨⟨#[]⟩, d.Symbols⟩) (off := off) (hd.up hgr).s ho).mono ?_); rw [HQ.out]; rintro e v1 ⟨rfl, hg⟩; have y0 := grow_cell hg y0; have y1 := grow_cell hg y1; have y2 := grow_cell hg y2; have y3 := grow_cell hg y3; have y4 := grow_cell hg y4; have hgY := Nat.lt_of_lt_of_le hgY hg.size; have hgr := hgr.trans hg; have hgsb := Nat.lt_of_lt_of_le hgsb hg.size; have s0 := grow_cell hg s0) | (go_at_call 340; (with_reducible refine (findRow_i (rs := d.Rows) (off := off) (hd.up hgr).r).mono ?_); rw [HR.out]; rintro e v1 ⟨rfl, hg⟩; have y0 := grow_cell hg y0; have y1 := grow_cell hg y1; have y2 := grow_cell hg y2; have y3 := grow_cell hg y3; have y4 := grow_cell hg y4; have hgY := Nat.lt_of_lt_of_le hgY hg.size; have hgr := hgr.trans hg; have hgsb := Nat.lt_of_lt_of_le hgsb hg.size; have s0 := grow_cell hg s0) | (go_at_call 341; (with_reducible refine (isStart_i (rs := d.Rows) (off := off) (hd.up hgr).r).mono ?_); rw [HI.out]; rintro e v1 ⟨rfl, hg⟩; have y0 := grow_cell hg y0; have y1 := grow_cell hg y1; have y2 := grow_cell hg y2; have y3 := grow_cell hg y3; have y4 := grow_cell hg y4; have hgY := Nat.lt_of_lt_of_le hgY hg.size; have hgr := hgr.trans hg; have hgsb := Nat.lt_of_lt_of_le hgsb hg.size; have s0 := grow_cell hg s0) | (go_at_call 342; obtain ⟨gx, hgx⟩ : ∃ gx, v1.heap.size = gx := ⟨_, rfl⟩; (with_reducible refine (inlinesAt_i (rs := d.Inlines) (off := off) (hd.up (hgr.trans gG)).n hd.hn).mono ?_); rintro e v2 ⟨AL, cL, SL, rfl, hHL, hSL, hgL⟩))
      have hgA : Gro v1 (v1.alloc (.cells #[] 59)) := gG
      have e7 := grow_blk (heap_alloc_new v1 (.cells #[] 59)) hgL
      rw [hgx] at e7
      have y3 := grow_cell (hgA.trans hgL) y3
      have hgY2 : g0 < v2.heap.size := Nat.lt_of_lt_of_le hgY (hgA.trans hgL).size
      have hgr2 := hgr.trans (hgA.trans hgL)
      have hSLx : ∀ b ∈ SL, gx < b := fun b hb => by have := hSL b hb; simp at this; omega
      have hwx : w.heap.size ≤ gx := by rw [← hgx]; exact hgr.size
      have hgx2 : g0 < gx := by rw [← hgx]; exact hgY
      obtain ⟨L, hLe⟩ : ∃ L, inlinesAt d.Inlines off = L := ⟨_, rfl⟩
      have hLl : L.length ≤ d.Inlines.length := by rw [← hLe]; exact inlinesAt_len _ _
      rw [hLe] at hHL HF ⊢
      clear hLe hgx hSL hgL hgA s0 y0 y1 y2 y4 hgr hg
      go_loopw [10, 11, 51] (fun z nm a wr => ∃ (k : Nat) (ys : List DFrame) (x : ByteArray) (A7 : Option Addr) (c7 : Nat) (S : List Nat), z = .slice A7 ys.length c7 ∧ nm = .string x ∧ a = .int .i64 k ∧ k ≤ L.length ∧ Hid (ys.length = k) ∧ Hid (OnlyS [gx] v2 wr) ∧ Hid (Has (tFrame.sl 59) wr [.slice A7 ys.length c7] ys S) ∧ Hid (∀ b ∈ S, b ∈ [gx] ∨ v2.heap.size ≤ b) ∧ Hid (x.size ≤ 9223372036854775807) ∧ Hid (ys ++ frameGo x (L.drop k) r.Line = frameGo s'.Name L r.Line)) (fun _ _ a _ => L.length - (intOf a).toNat)
      case atStart => exact ⟨0, [], s'.Name, some ⟨gx, 0, none⟩, 0, [gx], rfl, rfl, rfl, Nat.zero_le _, Lib.hid rfl, Lib.hid (OnlyS.refl _ _), Lib.hid (Has.emp tFrame e7), Lib.hid (fun b hb => .inl hb), Lib.hid bn, Lib.hid rfl⟩
      case round =>
        obtain ⟨k, ys, x, A7, c7, S, rfl, rfl, rfl, hk, hyk, hO, hH, hS, hxn, hE⟩ := hrel
        have hyl := Nat.le_of_eq hyk.out
        have hS2 : ∀ b ∈ S, w.heap.size ≤ b := fun b hb => by
          rcases hS.out b hb with h | h
          · simp at h; omega
          · have := hgr2.size; omega
        have hGw : Gro w wr := hO.out.gro hgr2 (fun b hb => by simp at hb; omega)
        have hLr := hHL.keep hO.out (fun b hb hm => by simp at hm; have := hSLx b hb; omega)
        by_cases hlt : k < L.length
        · obtain ⟨gi, oi, y, hAi, hgib, hyk', x0, x1, x2, x3, x4, b0, b1, b2, b3, b4⟩ := atInline hLr.read hlt
          have HX := Lib.hid (frameGo_at hyk' x r.Line)
          have hfR : tFrame.R w w.heap.size [.string x, .int .i64 y.Line] ⟨x, y.Line⟩ := tFrame_mkR (x := ⟨x, y.Line⟩) hxn.out b3
          have hki : (k : Int) < (L.length : Int) := by omega
          subst hAi
          have hgiS : gi ∉ S := fun hm => by
            have h1 := has_blk hHL
            have h2 := hSLx _ h1
            have h3 := hHL.lt _ h1
            rcases hS.out _ hm with h | h
            · simp at h; omega
            · omega
          clear hyk'
          have hbx := heap_alloc_new wr (.cells #[.int .i64 y.Start, .int .i64 y.End, .int .i64 y.Level, .int .i64 y.Line, .string y.Name] 260)
          obtain ⟨z0, z1, z2, z3, z4, _⟩ := row5 hbx
          clear hbx
          go_wp2_with (refine wpList_append_hasf (L := ys.length + 1) (y := ⟨x, y.Line⟩) rfl (.tmp 55) (.tmp 60) elFrame flatFrame (S := S) (hH.out.gro gF) (ec := [.string x, .int .i64 y.Line]) (W1 := w) (B := w.heap.size) hfR rfl rfl rfl (by intro j u hu; simpa [go_sem] using hu) rfl (by omega) (by omega) ?_; intro A8 c8 W8 S8 hon hH8 hS8; have z4 := keep_thru z4 ((Gro.refl _).alloc _) hon (fun hm => by have := hH.out.lt _ hm; omega))
          go_roundw
          case measure => (simp [intOf]; try omega)
          case rel =>
            refine ⟨k + 1, ys ++ [⟨x, y.Line⟩], y.Name, A8, c8, S8, by simp, rfl, by go_num, by omega, Lib.hid (by rw [List.length_append, hyk.out]; rfl), Lib.hid (hO.out.on gG hon hS.out), Lib.hid (by simpa using hH8), Lib.hid (fun b hb => ?_), Lib.hid b4, Lib.hid (by rw [← hE.out, HX.out]; simp)⟩
            rcases hS8 b hb with h | h
            · exact hS.out b h
            · have := hO.out.size; simp at h; exact .inr (by omega)
        · have hki : ¬ ((k : Int) < (L.length : Int)) := by omega
          have hE2 := hE.out
          rw [show k = L.length from by omega, List.drop_length] at hE2
          have HE := Lib.hid hE2
          clear hE2
          have y3 := (hO.out.cell hgY2 (by simp; omega) 3).trans y3
          obtain ⟨gq, oq, r', hAr, hgrb, hrk, r0, r1, r2, br0, br1⟩ := atRow (hd.up hGw).r hrl'
          have hrr : r' = r := by rw [HRR.out] at hrk; injection hrk with hrk; exact hrk.symm
          subst hrr
          have hfR : tFrame.R w w.heap.size [.string x, .int .i64 r'.Line] ⟨x, r'.Line⟩ := tFrame_mkR (x := ⟨x, r'.Line⟩) hxn.out br1
          subst hAr
          clear hrk
          go_wp2_with (refine wpList_append_hasf (L := ys.length + 1) (y := ⟨x, r'.Line⟩) rfl (.tmp 65) (.tmp 74) elFrame flatFrame (S := S) (hH.out.gro gF) (ec := [.string x, .int .i64 r'.Line]) (W1 := w) (B := w.heap.size) hfR rfl rfl rfl (by intro j u hu; simpa [go_sem] using hu) rfl (by omega) (by omega) ?_; intro A8 c8 W8 S8 hon hH8 hS8)
          have hH9 : Has (tFrame.sl 59) W8 [.slice A8 (ys.length + 1) c8] (frameGo s'.Name L r'.Line) S8 := by rw [← HE.out]; exact hH8
          exact bodyPost_ret (v := .tuple #[.slice A8 (ys.length + 1) c8, .bool true]) (by simp [results, Tryz.results282, go_sem]) rfl (RetFr.yes HF.out hH9 (by rw [← HE.out]; simp [frameGo]) (fun b hb => by
            rcases hS8 b hb with h | h
            · exact hS2 b h
            · have := hGw.size; simp at h; omega) (hon.gro (hGw.trans gG) hS2))
  | false =>
    have HF := Lib.hid (framesAt_yes (d := d) (off := off) (start := false) h h' (fun h => by cases h) hs hr)
    clear h h' hr
    go_enter Tryz.func282, Tryz.ntmps282
    go_upto_region 1 with (fail)
    have hgr : Gro w (w.alloc (.cells #[.int .i64 d.Id, .slice A0 d.Symbols.length c0, .slice A1 d.Rules.length c1, .slice A2 d.Rows.length c2, .slice A3 d.Inlines.length c3] 97)) := gG
    have eb := heap_alloc_new w (.cells #[.int .i64 d.Id, .slice A0 d.Symbols.length c0, .slice A1 d.Rules.length c1, .slice A2 d.Rows.length c2, .slice A3 d.Inlines.length c3] 97)
    obtain ⟨g0, hg0⟩ : ∃ g0, w.heap.size = g0 := ⟨_, rfl⟩
    have hwg : w.heap.size ≤ g0 := by omega
    rw [hg0] at eb ⊢
    generalize w.alloc (.cells #[.int .i64 d.Id, .slice A0 d.Symbols.length c0, .slice A1 d.Rules.length c1, .slice A2 d.Rows.length c2, .slice A3 d.Inlines.length c3] 97) = Y at hgr eb ⊢
    clear hg0
    obtain ⟨y0, y1, y2, y3, y4, _⟩ := row5 eb
    have hgY : g0 < Y.heap.size := (Array.getElem?_eq_some_iff.1 eb).1
    clear eb
    have hsl := (List.getElem?_eq_some_iff.1 hs).1
    obtain ⟨gs, os_, s', hAs, hgsb, hsk, s0, s1, s2, bn, bs1, bs2⟩ := atSymbol (hd.up hgr).s hsl
    have hss : s' = s := by rw [hs] at hsk; injection hsk with hsk; exact hsk.symm
    subst hss
    have hji : (j : Int) < (d.Symbols.length : Int) := by omega
    have hj0 : ¬ ((j : Int) < 0) := by omega
    have hj1 : (0 : Int) ≤ (j : Int) := by omega
    have hii : (i : Int) < (d.Rows.length : Int) := by omega
    have hi0 : ¬ ((i : Int) < 0) := by omega
    have hi1 : (0 : Int) ≤ (i : Int) := by omega
    subst hAs
    clear hs hsk s1 s2
    go_wp2_with (first | (go_at_call 339; (with_reducible refine (symAt_i (i := ⟨⟨#[]⟩, d.Symbols⟩) (off := off) (hd.up hgr).s ho).mono ?_); rw [HQ.out]; rintro e v1 ⟨rfl, hg⟩; have y0 := grow_cell hg y0; have y1 := grow_cell hg y1; have y2 := grow_cell hg y2; have y3 := grow_cell hg y3; have y4 := grow_cell hg y4; have hgY := Nat.lt_of_lt_of_le hgY hg.size; have hgr := hgr.trans hg; have hgsb := Nat.lt_of_lt_of_le hgsb hg.size; have s0 := grow_cell hg s0) | (go_at_call 340; (with_reducible refine (findRow_i (rs := d.Rows) (off := off) (hd.up hgr).r).mono ?_); rw [HR.out]; rintro e v1 ⟨rfl, hg⟩; have y0 := grow_cell hg y0; have y1 := grow_cell hg y1; have y2 := grow_cell hg y2; have y3 := grow_cell hg y3; have y4 := grow_cell hg y4; have hgY := Nat.lt_of_lt_of_le hgY hg.size; have hgr := hgr.trans hg; have hgsb := Nat.lt_of_lt_of_le hgsb hg.size; have s0 := grow_cell hg s0) | (go_at_call 342; obtain ⟨gx, hgx⟩ : ∃ gx, v1.heap.size = gx := ⟨_, rfl⟩; (with_reducible refine (inlinesAt_i (rs := d.Inlines) (off := off) (hd.up (hgr.trans gG)).n hd.hn).mono ?_); rintro e v2 ⟨AL, cL, SL, rfl, hHL, hSL, hgL⟩))
    have hgA : Gro v1 (v1.alloc (.cells #[] 59)) := gG
    have e7 := grow_blk (heap_alloc_new v1 (.cells #[] 59)) hgL
    rw [hgx] at e7
    have y3 := grow_cell (hgA.trans hgL) y3
    have hgY2 : g0 < v2.heap.size := Nat.lt_of_lt_of_le hgY (hgA.trans hgL).size
    have hgr2 := hgr.trans (hgA.trans hgL)
    have hSLx : ∀ b ∈ SL, gx < b := fun b hb => by have := hSL b hb; simp at this; omega
    have hwx : w.heap.size ≤ gx := by rw [← hgx]; exact hgr.size
    have hgx2 : g0 < gx := by rw [← hgx]; exact hgY
    obtain ⟨L, hLe⟩ : ∃ L, inlinesAt d.Inlines off = L := ⟨_, rfl⟩
    have hLl : L.length ≤ d.Inlines.length := by rw [← hLe]; exact inlinesAt_len _ _
    rw [hLe] at hHL HF ⊢
    clear hLe hgx hSL hgL hgA s0 y0 y1 y2 y4 hgr hg
    go_loopw [10, 11, 51] (fun z nm a wr => ∃ (k : Nat) (ys : List DFrame) (x : ByteArray) (A7 : Option Addr) (c7 : Nat) (S : List Nat), z = .slice A7 ys.length c7 ∧ nm = .string x ∧ a = .int .i64 k ∧ k ≤ L.length ∧ Hid (ys.length = k) ∧ Hid (OnlyS [gx] v2 wr) ∧ Hid (Has (tFrame.sl 59) wr [.slice A7 ys.length c7] ys S) ∧ Hid (∀ b ∈ S, b ∈ [gx] ∨ v2.heap.size ≤ b) ∧ Hid (x.size ≤ 9223372036854775807) ∧ Hid (ys ++ frameGo x (L.drop k) r.Line = frameGo s'.Name L r.Line)) (fun _ _ a _ => L.length - (intOf a).toNat)
    case atStart => exact ⟨0, [], s'.Name, some ⟨gx, 0, none⟩, 0, [gx], rfl, rfl, rfl, Nat.zero_le _, Lib.hid rfl, Lib.hid (OnlyS.refl _ _), Lib.hid (Has.emp tFrame e7), Lib.hid (fun b hb => .inl hb), Lib.hid bn, Lib.hid rfl⟩
    case round =>
      obtain ⟨k, ys, x, A7, c7, S, rfl, rfl, rfl, hk, hyk, hO, hH, hS, hxn, hE⟩ := hrel
      have hyl := Nat.le_of_eq hyk.out
      have hS2 : ∀ b ∈ S, w.heap.size ≤ b := fun b hb => by
        rcases hS.out b hb with h | h
        · simp at h; omega
        · have := hgr2.size; omega
      have hGw : Gro w wr := hO.out.gro hgr2 (fun b hb => by simp at hb; omega)
      have hLr := hHL.keep hO.out (fun b hb hm => by simp at hm; have := hSLx b hb; omega)
      by_cases hlt : k < L.length
      · obtain ⟨gi, oi, y, hAi, hgib, hyk', x0, x1, x2, x3, x4, b0, b1, b2, b3, b4⟩ := atInline hLr.read hlt
        have HX := Lib.hid (frameGo_at hyk' x r.Line)
        have hfR : tFrame.R w w.heap.size [.string x, .int .i64 y.Line] ⟨x, y.Line⟩ := tFrame_mkR (x := ⟨x, y.Line⟩) hxn.out b3
        have hki : (k : Int) < (L.length : Int) := by omega
        subst hAi
        have hgiS : gi ∉ S := fun hm => by
          have h1 := has_blk hHL
          have h2 := hSLx _ h1
          have h3 := hHL.lt _ h1
          rcases hS.out _ hm with h | h
          · simp at h; omega
          · omega
        clear hyk'
        have hbx := heap_alloc_new wr (.cells #[.int .i64 y.Start, .int .i64 y.End, .int .i64 y.Level, .int .i64 y.Line, .string y.Name] 260)
        obtain ⟨z0, z1, z2, z3, z4, _⟩ := row5 hbx
        clear hbx
        go_wp2_with (refine wpList_append_hasf (L := ys.length + 1) (y := ⟨x, y.Line⟩) rfl (.tmp 55) (.tmp 60) elFrame flatFrame (S := S) (hH.out.gro gF) (ec := [.string x, .int .i64 y.Line]) (W1 := w) (B := w.heap.size) hfR rfl rfl rfl (by intro j u hu; simpa [go_sem] using hu) rfl (by omega) (by omega) ?_; intro A8 c8 W8 S8 hon hH8 hS8; have z4 := keep_thru z4 ((Gro.refl _).alloc _) hon (fun hm => by have := hH.out.lt _ hm; omega))
        go_roundw
        case measure => (simp [intOf]; try omega)
        case rel =>
          refine ⟨k + 1, ys ++ [⟨x, y.Line⟩], y.Name, A8, c8, S8, by simp, rfl, by go_num, by omega, Lib.hid (by rw [List.length_append, hyk.out]; rfl), Lib.hid (hO.out.on gG hon hS.out), Lib.hid (by simpa using hH8), Lib.hid (fun b hb => ?_), Lib.hid b4, Lib.hid (by rw [← hE.out, HX.out]; simp)⟩
          rcases hS8 b hb with h | h
          · exact hS.out b h
          · have := hO.out.size; simp at h; exact .inr (by omega)
      · have hki : ¬ ((k : Int) < (L.length : Int)) := by omega
        have hE2 := hE.out
        rw [show k = L.length from by omega, List.drop_length] at hE2
        have HE := Lib.hid hE2
        clear hE2
        have y3 := (hO.out.cell hgY2 (by simp; omega) 3).trans y3
        obtain ⟨gq, oq, r', hAr, hgrb, hrk, r0, r1, r2, br0, br1⟩ := atRow (hd.up hGw).r hrl'
        have hrr : r' = r := by rw [HRR.out] at hrk; injection hrk with hrk; exact hrk.symm
        subst hrr
        have hfR : tFrame.R w w.heap.size [.string x, .int .i64 r'.Line] ⟨x, r'.Line⟩ := tFrame_mkR (x := ⟨x, r'.Line⟩) hxn.out br1
        subst hAr
        clear hrk
        go_wp2_with (refine wpList_append_hasf (L := ys.length + 1) (y := ⟨x, r'.Line⟩) rfl (.tmp 65) (.tmp 74) elFrame flatFrame (S := S) (hH.out.gro gF) (ec := [.string x, .int .i64 r'.Line]) (W1 := w) (B := w.heap.size) hfR rfl rfl rfl (by intro j u hu; simpa [go_sem] using hu) rfl (by omega) (by omega) ?_; intro A8 c8 W8 S8 hon hH8 hS8)
        have hH9 : Has (tFrame.sl 59) W8 [.slice A8 (ys.length + 1) c8] (frameGo s'.Name L r'.Line) S8 := by rw [← HE.out]; exact hH8
        exact bodyPost_ret (v := .tuple #[.slice A8 (ys.length + 1) c8, .bool true]) (by simp [results, Tryz.results282, go_sem]) rfl (RetFr.yes HF.out hH9 (by rw [← HE.out]; simp [frameGo]) (fun b hb => by
          rcases hS8 b hb with h | h
          · exact hS2 b h
          · have := hGw.size; simp at h; omega) (hon.gro (hGw.trans gG) hS2))
end Go.Proofs.YtgodpjnbhmahaaaGreat
namespace Go.Proofs.YtgodpjnbhmahaaaGreat
open Go.RowKit
set_option maxRecDepth 100000 in
set_option maxHeartbeats 4000000 in
theorem framesAt_s {d : DDebug} {off : Int} {start : Bool} {w : World} {A0 A1 A2 A3 : Option Addr} {c0 c1 c2 c3 : Nat} (hd : DebugR d w A0 A1 A2 A3 c0 c1 c2 c3) (ho : I64 off) :
    Calls Tryz.prog 184 #[.agg #[.int .i64 d.Id, .slice A0 d.Symbols.length c0, .slice A1 d.Rules.length c1, .slice A2 d.Rows.length c2, .slice A3 d.Inlines.length c3], .int .i64 off, .bool start] w (RetFr (framesAt d off start) w) := by
  obtain ⟨_, _, hx', hxl, hcm⟩ := sl_at hd.s
  injection hx' with e1 e2 e3
  subst e1 e3
  clear e2
  obtain ⟨_, _, hx', hrl, hrm⟩ := sl_at hd.r
  injection hx' with e1 e2 e3
  subst e1 e3
  clear e2
  have hil := hd.hn
  rcases symAt_res d.Symbols off with h | ⟨j, s, hs, h⟩
  · have HQ := Lib.hid h
    have HF := Lib.hid (framesAt_sym (d := d) (off := off) (start := start) h)
    obtain ⟨fr, hfr⟩ : ∃ fr, findRow d.Rows off = fr := ⟨_, rfl⟩
    have HR := Lib.hid hfr
    clear h hfr
    go_enter Tryz.func184, Tryz.ntmps184
    go_upto_region 1 with (fail)
    have hgr : Gro w (w.alloc (.cells #[.int .i64 d.Id, .slice A0 d.Symbols.length c0, .slice A1 d.Rules.length c1, .slice A2 d.Rows.length c2, .slice A3 d.Inlines.length c3] 97)) := gG
    have eb := heap_alloc_new w (.cells #[.int .i64 d.Id, .slice A0 d.Symbols.length c0, .slice A1 d.Rules.length c1, .slice A2 d.Rows.length c2, .slice A3 d.Inlines.length c3] 97)
    obtain ⟨g0, hg0⟩ : ∃ g0, w.heap.size = g0 := ⟨_, rfl⟩
    have hwg : w.heap.size ≤ g0 := by omega
    rw [hg0] at eb ⊢
    generalize w.alloc (.cells #[.int .i64 d.Id, .slice A0 d.Symbols.length c0, .slice A1 d.Rules.length c1, .slice A2 d.Rows.length c2, .slice A3 d.Inlines.length c3] 97) = Y at hgr eb ⊢
    clear hg0
    obtain ⟨y0, y1, y2, y3, y4, _⟩ := row5 eb
    have hgY : g0 < Y.heap.size := (Array.getElem?_eq_some_iff.1 eb).1
    clear eb
    go_wp2_with (first | (go_at_call 172; (with_reducible refine (symAt_s (i := ⟨⟨#[]⟩, d.Symbols⟩) (off := off) (hd.up hgr).s ho).mono ?_); rw [HQ.out]; rintro e v1 ⟨rfl, hg⟩; have y0 := grow_cell hg y0; have y1 := grow_cell hg y1; have y2 := grow_cell hg y2; have y3 := grow_cell hg y3; have y4 := grow_cell hg y4; have hgY := Nat.lt_of_lt_of_le hgY hg.size; have hgr := hgr.trans hg) | (go_at_call 287; (with_reducible refine (findRow_s (rs := d.Rows) (off := off) (hd.up hgr).r).mono ?_); rw [HR.out]; rintro e v1 ⟨rfl, hg⟩; have y0 := grow_cell hg y0; have y1 := grow_cell hg y1; have y2 := grow_cell hg y2; have y3 := grow_cell hg y3; have y4 := grow_cell hg y4; have hgY := Nat.lt_of_lt_of_le hgY hg.size; have hgr := hgr.trans hg))
    exact bodyPost_ret (v := .tuple #[.slice (some ⟨v1.heap.size, 0, none⟩) 0 0, .bool false]) (by simp [results, Tryz.results184, go_sem]) rfl (RetFr.no HF.out (Has.emp tFrame (heap_alloc_new v1 _)) (fun b hb => by simp at hb; have := hgr.size; omega) (hgr.alloc _))
  rcases findRow_res d.Rows off with h' | ⟨i, r, hr, h'⟩
  · have HQ := Lib.hid h
    have HR := Lib.hid h'
    have HF := Lib.hid (framesAt_row (d := d) (off := off) (start := start) h')
    have hj0 : ¬ ((j : Int) < 0) := by omega
    have hj1 : (0 : Int) ≤ (j : Int) := by omega
    clear h h' hs
    go_enter Tryz.func184, Tryz.ntmps184
    go_upto_region 1 with (fail)
    have hgr : Gro w (w.alloc (.cells #[.int .i64 d.Id, .slice A0 d.Symbols.length c0, .slice A1 d.Rules.length c1, .slice A2 d.Rows.length c2, .slice A3 d.Inlines.length c3] 97)) := gG
    have eb := heap_alloc_new w (.cells #[.int .i64 d.Id, .slice A0 d.Symbols.length c0, .slice A1 d.Rules.length c1, .slice A2 d.Rows.length c2, .slice A3 d.Inlines.length c3] 97)
    obtain ⟨g0, hg0⟩ : ∃ g0, w.heap.size = g0 := ⟨_, rfl⟩
    have hwg : w.heap.size ≤ g0 := by omega
    rw [hg0] at eb ⊢
    generalize w.alloc (.cells #[.int .i64 d.Id, .slice A0 d.Symbols.length c0, .slice A1 d.Rules.length c1, .slice A2 d.Rows.length c2, .slice A3 d.Inlines.length c3] 97) = Y at hgr eb ⊢
    clear hg0
    obtain ⟨y0, y1, y2, y3, y4, _⟩ := row5 eb
    have hgY : g0 < Y.heap.size := (Array.getElem?_eq_some_iff.1 eb).1
    clear eb
    go_wp2_with (first | (go_at_call 172; (with_reducible refine (symAt_s (i := ⟨⟨#[]⟩, d.Symbols⟩) (off := off) (hd.up hgr).s ho).mono ?_); rw [HQ.out]; rintro e v1 ⟨rfl, hg⟩; have y0 := grow_cell hg y0; have y1 := grow_cell hg y1; have y2 := grow_cell hg y2; have y3 := grow_cell hg y3; have y4 := grow_cell hg y4; have hgY := Nat.lt_of_lt_of_le hgY hg.size; have hgr := hgr.trans hg) | (go_at_call 287; (with_reducible refine (findRow_s (rs := d.Rows) (off := off) (hd.up hgr).r).mono ?_); rw [HR.out]; rintro e v1 ⟨rfl, hg⟩; have y0 := grow_cell hg y0; have y1 := grow_cell hg y1; have y2 := grow_cell hg y2; have y3 := grow_cell hg y3; have y4 := grow_cell hg y4; have hgY := Nat.lt_of_lt_of_le hgY hg.size; have hgr := hgr.trans hg))
    exact bodyPost_ret (v := .tuple #[.slice (some ⟨v1.heap.size, 0, none⟩) 0 0, .bool false]) (by simp [results, Tryz.results184, go_sem]) rfl (RetFr.no HF.out (Has.emp tFrame (heap_alloc_new v1 _)) (fun b hb => by simp at hb; have := hgr.size; omega) (hgr.alloc _))
  have hrl' := (List.getElem?_eq_some_iff.1 hr).1
  have HRR := Lib.hid hr
  have HQ := Lib.hid h
  have HR := Lib.hid h'
  cases start with
  | true =>
    obtain ⟨q, hq⟩ : ∃ q, isStart d.Rows off = q := ⟨_, rfl⟩
    have HI := Lib.hid hq
    cases q with
    | false =>
      have HF := Lib.hid (framesAt_start (d := d) (off := off) hq)
      have hj0 : ¬ ((j : Int) < 0) := by omega
      have hj1 : (0 : Int) ≤ (j : Int) := by omega
      have hi0 : ¬ ((i : Int) < 0) := by omega
      have hi1 : (0 : Int) ≤ (i : Int) := by omega
      clear h h' hs hq hr
      go_enter Tryz.func184, Tryz.ntmps184
      go_upto_region 1 with (fail)
      have hgr : Gro w (w.alloc (.cells #[.int .i64 d.Id, .slice A0 d.Symbols.length c0, .slice A1 d.Rules.length c1, .slice A2 d.Rows.length c2, .slice A3 d.Inlines.length c3] 97)) := gG
      have eb := heap_alloc_new w (.cells #[.int .i64 d.Id, .slice A0 d.Symbols.length c0, .slice A1 d.Rules.length c1, .slice A2 d.Rows.length c2, .slice A3 d.Inlines.length c3] 97)
      obtain ⟨g0, hg0⟩ : ∃ g0, w.heap.size = g0 := ⟨_, rfl⟩
      have hwg : w.heap.size ≤ g0 := by omega
      rw [hg0] at eb ⊢
      generalize w.alloc (.cells #[.int .i64 d.Id, .slice A0 d.Symbols.length c0, .slice A1 d.Rules.length c1, .slice A2 d.Rows.length c2, .slice A3 d.Inlines.length c3] 97) = Y at hgr eb ⊢
      clear hg0
      obtain ⟨y0, y1, y2, y3, y4, _⟩ := row5 eb
      have hgY : g0 < Y.heap.size := (Array.getElem?_eq_some_iff.1 eb).1
      clear eb
      go_wp2_with (first | (go_at_call 172; (with_reducible refine (symAt_s (i := ⟨⟨#[]⟩, d.Symbols⟩) (off := off) (hd.up hgr).s ho).mono ?_); rw [HQ.out]; rintro e v1 ⟨rfl, hg⟩; have y0 := grow_cell hg y0; have y1 := grow_cell hg y1; have y2 := grow_cell hg y2; have y3 := grow_cell hg y3; have y4 := grow_cell hg y4; have hgY := Nat.lt_of_lt_of_le hgY hg.size; have hgr := hgr.trans hg) | (go_at_call 287; (with_reducible refine (findRow_s (rs := d.Rows) (off := off) (hd.up hgr).r).mono ?_); rw [HR.out]; rintro e v1 ⟨rfl, hg⟩; have y0 := grow_cell hg y0; have y1 := grow_cell hg y1; have y2 := grow_cell hg y2; have y3 := grow_cell hg y3; have y4 := grow_cell hg y4; have hgY := Nat.lt_of_lt_of_le hgY hg.size; have hgr := hgr.trans hg) | (go_at_call 288; (with_reducible refine (isStart_s (rs := d.Rows) (off := off) (hd.up hgr).r).mono ?_); rw [HI.out]; rintro e v1 ⟨rfl, hg⟩; have y0 := grow_cell hg y0; have y1 := grow_cell hg y1; have y2 := grow_cell hg y2; have y3 := grow_cell hg y3; have y4 := grow_cell hg y4; have hgY := Nat.lt_of_lt_of_le hgY hg.size; have hgr := hgr.trans hg))
      exact bodyPost_ret (v := .tuple #[.slice (some ⟨v1.heap.size, 0, none⟩) 0 0, .bool false]) (by simp [results, Tryz.results184, go_sem]) rfl (RetFr.no HF.out (Has.emp tFrame (heap_alloc_new v1 _)) (fun b hb => by simp at hb; have := hgr.size; omega) (hgr.alloc _))
    | true =>
      have HF := Lib.hid (framesAt_yes (d := d) (off := off) (start := true) h h' (fun _ => hq) hs hr)
      clear h h' hq hr
      go_enter Tryz.func184, Tryz.ntmps184
      go_upto_region 1 with (fail)
      have hgr : Gro w (w.alloc (.cells #[.int .i64 d.Id, .slice A0 d.Symbols.length c0, .slice A1 d.Rules.length c1, .slice A2 d.Rows.length c2, .slice A3 d.Inlines.length c3] 97)) := gG
      have eb := heap_alloc_new w (.cells #[.int .i64 d.Id, .slice A0 d.Symbols.length c0, .slice A1 d.Rules.length c1, .slice A2 d.Rows.length c2, .slice A3 d.Inlines.length c3] 97)
      obtain ⟨g0, hg0⟩ : ∃ g0, w.heap.size = g0 := ⟨_, rfl⟩
      have hwg : w.heap.size ≤ g0 := by omega
      rw [hg0] at eb ⊢
      generalize w.alloc (.cells #[.int .i64 d.Id, .slice A0 d.Symbols.length c0, .slice A1 d.Rules.length c1, .slice A2 d.Rows.length c2, .slice A3 d.Inlines.length c3] 97) = Y at hgr eb ⊢
      clear hg0
      obtain ⟨y0, y1, y2, y3, y4, _⟩ := row5 eb
      have hgY : g0 < Y.heap.size := (Array.getElem?_eq_some_iff.1 eb).1
      clear eb
      have hsl := (List.getElem?_eq_some_iff.1 hs).1
      obtain ⟨gs, os_, s', hAs, hgsb, hsk, s0, s1, s2, bn, bs1, bs2⟩ := atSymbol (hd.up hgr).s hsl
      have hss : s' = s := by rw [hs] at hsk; injection hsk with hsk; exact hsk.symm
      subst hss
      have hji : (j : Int) < (d.Symbols.length : Int) := by omega
      have hj0 : ¬ ((j : Int) < 0) := by omega
      have hj1 : (0 : Int) ≤ (j : Int) := by omega
      have hii : (i : Int) < (d.Rows.length : Int) := by omega
      have hi0 : ¬ ((i : Int) < 0) := by omega
      have hi1 : (0 : Int) ≤ (i : Int) := by omega
      subst hAs
      clear hs hsk s1 s2
      go_wp2_with (first | (go_at_call 172; (with_reducible refine (symAt_s (i := ⟨⟨#[]⟩, d.Symbols⟩) (off := off) (hd.up hgr).s ho).mono ?_); rw [HQ.out]; rintro e v1 ⟨rfl, hg⟩; have y0 := grow_cell hg y0; have y1 := grow_cell hg y1; have y2 := grow_cell hg y2; have y3 := grow_cell hg y3; have y4 := grow_cell hg y4; have hgY := Nat.lt_of_lt_of_le hgY hg.size; have hgr := hgr.trans hg; have hgsb := Nat.lt_of_lt_of_le hgsb hg.size; have s0 := grow_cell hg s0) | (go_at_call 287; (with_reducible refine (findRow_s (rs := d.Rows) (off := off) (hd.up hgr).r).mono ?_); rw [HR.out]; rintro e v1 ⟨rfl, hg⟩; have y0 := grow_cell hg y0; have y1 := grow_cell hg y1; have y2 := grow_cell hg y2; have y3 := grow_cell hg y3; have y4 := grow_cell hg y4; have hgY := Nat.lt_of_lt_of_le hgY hg.size; have hgr := hgr.trans hg; have hgsb := Nat.lt_of_lt_of_le hgsb hg.size; have s0 := grow_cell hg s0) | (go_at_call 288; (with_reducible refine (isStart_s (rs := d.Rows) (off := off) (hd.up hgr).r).mono ?_); rw [HI.out]; rintro e v1 ⟨rfl, hg⟩; have y0 := grow_cell hg y0; have y1 := grow_cell hg y1; have y2 := grow_cell hg y2; have y3 := grow_cell hg y3; have y4 := grow_cell hg y4; have hgY := Nat.lt_of_lt_of_le hgY hg.size; have hgr := hgr.trans hg; have hgsb := Nat.lt_of_lt_of_le hgsb hg.size; have s0 := grow_cell hg s0) | (go_at_call 289; obtain ⟨gx, hgx⟩ : ∃ gx, v1.heap.size = gx := ⟨_, rfl⟩; (with_reducible refine (inlinesAt_s (rs := d.Inlines) (off := off) (hd.up (hgr.trans gG)).n hd.hn).mono ?_); rintro e v2 ⟨AL, cL, SL, rfl, hHL, hSL, hgL⟩))
      have hgA : Gro v1 (v1.alloc (.cells #[] 59)) := gG
      have e7 := grow_blk (heap_alloc_new v1 (.cells #[] 59)) hgL
      rw [hgx] at e7
      have y3 := grow_cell (hgA.trans hgL) y3
      have hgY2 : g0 < v2.heap.size := Nat.lt_of_lt_of_le hgY (hgA.trans hgL).size
      have hgr2 := hgr.trans (hgA.trans hgL)
      have hSLx : ∀ b ∈ SL, gx < b := fun b hb => by have := hSL b hb; simp at this; omega
      have hwx : w.heap.size ≤ gx := by rw [← hgx]; exact hgr.size
      have hgx2 : g0 < gx := by rw [← hgx]; exact hgY
      obtain ⟨L, hLe⟩ : ∃ L, inlinesAt d.Inlines off = L := ⟨_, rfl⟩
      have hLl : L.length ≤ d.Inlines.length := by rw [← hLe]; exact inlinesAt_len _ _
      rw [hLe] at hHL HF ⊢
      clear hLe hgx hSL hgL hgA s0 y0 y1 y2 y4 hgr hg
      go_loopw [10, 11, 13] (fun nm z a wr => ∃ (k : Nat) (ys : List DFrame) (x : ByteArray) (A7 : Option Addr) (c7 : Nat) (S : List Nat), z = .slice A7 ys.length c7 ∧ nm = .string x ∧ a = .int .i64 k ∧ k ≤ L.length ∧ Hid (ys.length = k) ∧ Hid (OnlyS [gx] v2 wr) ∧ Hid (Has (tFrame.sl 59) wr [.slice A7 ys.length c7] ys S) ∧ Hid (∀ b ∈ S, b ∈ [gx] ∨ v2.heap.size ≤ b) ∧ Hid (x.size ≤ 9223372036854775807) ∧ Hid (ys ++ frameGo x (L.drop k) r.Line = frameGo s'.Name L r.Line)) (fun _ _ a _ => L.length - (intOf a).toNat)
      case atStart => exact ⟨0, [], s'.Name, some ⟨gx, 0, none⟩, 0, [gx], rfl, rfl, rfl, Nat.zero_le _, Lib.hid rfl, Lib.hid (OnlyS.refl _ _), Lib.hid (Has.emp tFrame e7), Lib.hid (fun b hb => .inl hb), Lib.hid bn, Lib.hid rfl⟩
      case round =>
        obtain ⟨k, ys, x, A7, c7, S, rfl, rfl, rfl, hk, hyk, hO, hH, hS, hxn, hE⟩ := hrel
        have hyl := Nat.le_of_eq hyk.out
        have hS2 : ∀ b ∈ S, w.heap.size ≤ b := fun b hb => by
          rcases hS.out b hb with h | h
          · simp at h; omega
          · have := hgr2.size; omega
        have hGw : Gro w wr := hO.out.gro hgr2 (fun b hb => by simp at hb; omega)
        have hLr := hHL.keep hO.out (fun b hb hm => by simp at hm; have := hSLx b hb; omega)
        by_cases hlt : k < L.length
        · obtain ⟨gi, oi, y, hAi, hgib, hyk', x0, x1, x2, x3, x4, b0, b1, b2, b3, b4⟩ := atInline hLr.read hlt
          have HX := Lib.hid (frameGo_at hyk' x r.Line)
          have hfR : tFrame.R w w.heap.size [.string x, .int .i64 y.Line] ⟨x, y.Line⟩ := tFrame_mkR (x := ⟨x, y.Line⟩) hxn.out b3
          have hki : (k : Int) < (L.length : Int) := by omega
          subst hAi
          have hgiS : gi ∉ S := fun hm => by
            have h1 := has_blk hHL
            have h2 := hSLx _ h1
            have h3 := hHL.lt _ h1
            rcases hS.out _ hm with h | h
            · simp at h; omega
            · omega
          clear hyk'
          go_wp2_with (refine wpList_append_hasf (L := ys.length + 1) (y := ⟨x, y.Line⟩) rfl (.tmp 57) (.tmp 65) elFrame flatFrame (S := S) (hH.out.gro gF) (ec := [.string x, .int .i64 y.Line]) (W1 := w) (B := w.heap.size) hfR rfl rfl rfl (by intro j u hu; simpa [go_sem] using hu) rfl (by omega) (by omega) ?_; intro A8 c8 W8 S8 hon hH8 hS8; have x4 := keep_thru x4 ((Gro.refl _).alloc _) hon hgiS)
          go_roundw
          case measure => (simp [intOf]; try omega)
          case rel =>
            refine ⟨k + 1, ys ++ [⟨x, y.Line⟩], y.Name, A8, c8, S8, by simp, rfl, by go_num, by omega, Lib.hid (by rw [List.length_append, hyk.out]; rfl), Lib.hid (hO.out.on gG hon hS.out), Lib.hid (by simpa using hH8), Lib.hid (fun b hb => ?_), Lib.hid b4, Lib.hid (by rw [← hE.out, HX.out]; simp)⟩
            rcases hS8 b hb with h | h
            · exact hS.out b h
            · have := hO.out.size; simp at h; exact .inr (by omega)
        · have hki : ¬ ((k : Int) < (L.length : Int)) := by omega
          have hE2 := hE.out
          rw [show k = L.length from by omega, List.drop_length] at hE2
          have HE := Lib.hid hE2
          clear hE2
          have y3 := (hO.out.cell hgY2 (by simp; omega) 3).trans y3
          obtain ⟨gq, oq, r', hAr, hgrb, hrk, r0, r1, r2, br0, br1⟩ := atRow (hd.up hGw).r hrl'
          have hrr : r' = r := by rw [HRR.out] at hrk; injection hrk with hrk; exact hrk.symm
          subst hrr
          have hfR : tFrame.R w w.heap.size [.string x, .int .i64 r'.Line] ⟨x, r'.Line⟩ := tFrame_mkR (x := ⟨x, r'.Line⟩) hxn.out br1
          subst hAr
          clear hrk
          go_wp2_with (refine wpList_append_hasf (L := ys.length + 1) (y := ⟨x, r'.Line⟩) rfl (.tmp 72) (.tmp 81) elFrame flatFrame (S := S) (hH.out.gro gF) (ec := [.string x, .int .i64 r'.Line]) (W1 := w) (B := w.heap.size) hfR rfl rfl rfl (by intro j u hu; simpa [go_sem] using hu) rfl (by omega) (by omega) ?_; intro A8 c8 W8 S8 hon hH8 hS8)
          have hH9 : Has (tFrame.sl 59) W8 [.slice A8 (ys.length + 1) c8] (frameGo s'.Name L r'.Line) S8 := by rw [← HE.out]; exact hH8
          exact bodyPost_ret (v := .tuple #[.slice A8 (ys.length + 1) c8, .bool true]) (by simp [results, Tryz.results184, go_sem]) rfl (RetFr.yes HF.out hH9 (by rw [← HE.out]; simp [frameGo]) (fun b hb => by
            rcases hS8 b hb with h | h
            · exact hS2 b h
            · have := hGw.size; simp at h; omega) (hon.gro (hGw.trans gG) hS2))
  | false =>
    have HF := Lib.hid (framesAt_yes (d := d) (off := off) (start := false) h h' (fun h => by cases h) hs hr)
    clear h h' hr
    go_enter Tryz.func184, Tryz.ntmps184
    go_upto_region 1 with (fail)
    have hgr : Gro w (w.alloc (.cells #[.int .i64 d.Id, .slice A0 d.Symbols.length c0, .slice A1 d.Rules.length c1, .slice A2 d.Rows.length c2, .slice A3 d.Inlines.length c3] 97)) := gG
    have eb := heap_alloc_new w (.cells #[.int .i64 d.Id, .slice A0 d.Symbols.length c0, .slice A1 d.Rules.length c1, .slice A2 d.Rows.length c2, .slice A3 d.Inlines.length c3] 97)
    obtain ⟨g0, hg0⟩ : ∃ g0, w.heap.size = g0 := ⟨_, rfl⟩
    have hwg : w.heap.size ≤ g0 := by omega
    rw [hg0] at eb ⊢
    generalize w.alloc (.cells #[.int .i64 d.Id, .slice A0 d.Symbols.length c0, .slice A1 d.Rules.length c1, .slice A2 d.Rows.length c2, .slice A3 d.Inlines.length c3] 97) = Y at hgr eb ⊢
    clear hg0
    obtain ⟨y0, y1, y2, y3, y4, _⟩ := row5 eb
    have hgY : g0 < Y.heap.size := (Array.getElem?_eq_some_iff.1 eb).1
    clear eb
    have hsl := (List.getElem?_eq_some_iff.1 hs).1
    obtain ⟨gs, os_, s', hAs, hgsb, hsk, s0, s1, s2, bn, bs1, bs2⟩ := atSymbol (hd.up hgr).s hsl
    have hss : s' = s := by rw [hs] at hsk; injection hsk with hsk; exact hsk.symm
    subst hss
    have hji : (j : Int) < (d.Symbols.length : Int) := by omega
    have hj0 : ¬ ((j : Int) < 0) := by omega
    have hj1 : (0 : Int) ≤ (j : Int) := by omega
    have hii : (i : Int) < (d.Rows.length : Int) := by omega
    have hi0 : ¬ ((i : Int) < 0) := by omega
    have hi1 : (0 : Int) ≤ (i : Int) := by omega
    subst hAs
    clear hs hsk s1 s2
    go_wp2_with (first | (go_at_call 172; (with_reducible refine (symAt_s (i := ⟨⟨#[]⟩, d.Symbols⟩) (off := off) (hd.up hgr).s ho).mono ?_); rw [HQ.out]; rintro e v1 ⟨rfl, hg⟩; have y0 := grow_cell hg y0; have y1 := grow_cell hg y1; have y2 := grow_cell hg y2; have y3 := grow_cell hg y3; have y4 := grow_cell hg y4; have hgY := Nat.lt_of_lt_of_le hgY hg.size; have hgr := hgr.trans hg; have hgsb := Nat.lt_of_lt_of_le hgsb hg.size; have s0 := grow_cell hg s0) | (go_at_call 287; (with_reducible refine (findRow_s (rs := d.Rows) (off := off) (hd.up hgr).r).mono ?_); rw [HR.out]; rintro e v1 ⟨rfl, hg⟩; have y0 := grow_cell hg y0; have y1 := grow_cell hg y1; have y2 := grow_cell hg y2; have y3 := grow_cell hg y3; have y4 := grow_cell hg y4; have hgY := Nat.lt_of_lt_of_le hgY hg.size; have hgr := hgr.trans hg; have hgsb := Nat.lt_of_lt_of_le hgsb hg.size; have s0 := grow_cell hg s0) | (go_at_call 289; obtain ⟨gx, hgx⟩ : ∃ gx, v1.heap.size = gx := ⟨_, rfl⟩; (with_reducible refine (inlinesAt_s (rs := d.Inlines) (off := off) (hd.up (hgr.trans gG)).n hd.hn).mono ?_); rintro e v2 ⟨AL, cL, SL, rfl, hHL, hSL, hgL⟩))
    have hgA : Gro v1 (v1.alloc (.cells #[] 59)) := gG
    have e7 := grow_blk (heap_alloc_new v1 (.cells #[] 59)) hgL
    rw [hgx] at e7
    have y3 := grow_cell (hgA.trans hgL) y3
    have hgY2 : g0 < v2.heap.size := Nat.lt_of_lt_of_le hgY (hgA.trans hgL).size
    have hgr2 := hgr.trans (hgA.trans hgL)
    have hSLx : ∀ b ∈ SL, gx < b := fun b hb => by have := hSL b hb; simp at this; omega
    have hwx : w.heap.size ≤ gx := by rw [← hgx]; exact hgr.size
    have hgx2 : g0 < gx := by rw [← hgx]; exact hgY
    obtain ⟨L, hLe⟩ : ∃ L, inlinesAt d.Inlines off = L := ⟨_, rfl⟩
    have hLl : L.length ≤ d.Inlines.length := by rw [← hLe]; exact inlinesAt_len _ _
    rw [hLe] at hHL HF ⊢
    clear hLe hgx hSL hgL hgA s0 y0 y1 y2 y4 hgr hg
    go_loopw [10, 11, 13] (fun nm z a wr => ∃ (k : Nat) (ys : List DFrame) (x : ByteArray) (A7 : Option Addr) (c7 : Nat) (S : List Nat), z = .slice A7 ys.length c7 ∧ nm = .string x ∧ a = .int .i64 k ∧ k ≤ L.length ∧ Hid (ys.length = k) ∧ Hid (OnlyS [gx] v2 wr) ∧ Hid (Has (tFrame.sl 59) wr [.slice A7 ys.length c7] ys S) ∧ Hid (∀ b ∈ S, b ∈ [gx] ∨ v2.heap.size ≤ b) ∧ Hid (x.size ≤ 9223372036854775807) ∧ Hid (ys ++ frameGo x (L.drop k) r.Line = frameGo s'.Name L r.Line)) (fun _ _ a _ => L.length - (intOf a).toNat)
    case atStart => exact ⟨0, [], s'.Name, some ⟨gx, 0, none⟩, 0, [gx], rfl, rfl, rfl, Nat.zero_le _, Lib.hid rfl, Lib.hid (OnlyS.refl _ _), Lib.hid (Has.emp tFrame e7), Lib.hid (fun b hb => .inl hb), Lib.hid bn, Lib.hid rfl⟩
    case round =>
      obtain ⟨k, ys, x, A7, c7, S, rfl, rfl, rfl, hk, hyk, hO, hH, hS, hxn, hE⟩ := hrel
      have hyl := Nat.le_of_eq hyk.out
      have hS2 : ∀ b ∈ S, w.heap.size ≤ b := fun b hb => by
        rcases hS.out b hb with h | h
        · simp at h; omega
        · have := hgr2.size; omega
      have hGw : Gro w wr := hO.out.gro hgr2 (fun b hb => by simp at hb; omega)
      have hLr := hHL.keep hO.out (fun b hb hm => by simp at hm; have := hSLx b hb; omega)
      by_cases hlt : k < L.length
      · obtain ⟨gi, oi, y, hAi, hgib, hyk', x0, x1, x2, x3, x4, b0, b1, b2, b3, b4⟩ := atInline hLr.read hlt
        have HX := Lib.hid (frameGo_at hyk' x r.Line)
        have hfR : tFrame.R w w.heap.size [.string x, .int .i64 y.Line] ⟨x, y.Line⟩ := tFrame_mkR (x := ⟨x, y.Line⟩) hxn.out b3
        have hki : (k : Int) < (L.length : Int) := by omega
        subst hAi
        have hgiS : gi ∉ S := fun hm => by
          have h1 := has_blk hHL
          have h2 := hSLx _ h1
          have h3 := hHL.lt _ h1
          rcases hS.out _ hm with h | h
          · simp at h; omega
          · omega
        clear hyk'
        go_wp2_with (refine wpList_append_hasf (L := ys.length + 1) (y := ⟨x, y.Line⟩) rfl (.tmp 57) (.tmp 65) elFrame flatFrame (S := S) (hH.out.gro gF) (ec := [.string x, .int .i64 y.Line]) (W1 := w) (B := w.heap.size) hfR rfl rfl rfl (by intro j u hu; simpa [go_sem] using hu) rfl (by omega) (by omega) ?_; intro A8 c8 W8 S8 hon hH8 hS8; have x4 := keep_thru x4 ((Gro.refl _).alloc _) hon hgiS)
        go_roundw
        case measure => (simp [intOf]; try omega)
        case rel =>
          refine ⟨k + 1, ys ++ [⟨x, y.Line⟩], y.Name, A8, c8, S8, by simp, rfl, by go_num, by omega, Lib.hid (by rw [List.length_append, hyk.out]; rfl), Lib.hid (hO.out.on gG hon hS.out), Lib.hid (by simpa using hH8), Lib.hid (fun b hb => ?_), Lib.hid b4, Lib.hid (by rw [← hE.out, HX.out]; simp)⟩
          rcases hS8 b hb with h | h
          · exact hS.out b h
          · have := hO.out.size; simp at h; exact .inr (by omega)
      · have hki : ¬ ((k : Int) < (L.length : Int)) := by omega
        have hE2 := hE.out
        rw [show k = L.length from by omega, List.drop_length] at hE2
        have HE := Lib.hid hE2
        clear hE2
        have y3 := (hO.out.cell hgY2 (by simp; omega) 3).trans y3
        obtain ⟨gq, oq, r', hAr, hgrb, hrk, r0, r1, r2, br0, br1⟩ := atRow (hd.up hGw).r hrl'
        have hrr : r' = r := by rw [HRR.out] at hrk; injection hrk with hrk; exact hrk.symm
        subst hrr
        have hfR : tFrame.R w w.heap.size [.string x, .int .i64 r'.Line] ⟨x, r'.Line⟩ := tFrame_mkR (x := ⟨x, r'.Line⟩) hxn.out br1
        subst hAr
        clear hrk
        go_wp2_with (refine wpList_append_hasf (L := ys.length + 1) (y := ⟨x, r'.Line⟩) rfl (.tmp 72) (.tmp 81) elFrame flatFrame (S := S) (hH.out.gro gF) (ec := [.string x, .int .i64 r'.Line]) (W1 := w) (B := w.heap.size) hfR rfl rfl rfl (by intro j u hu; simpa [go_sem] using hu) rfl (by omega) (by omega) ?_; intro A8 c8 W8 S8 hon hH8 hS8)
        have hH9 : Has (tFrame.sl 59) W8 [.slice A8 (ys.length + 1) c8] (frameGo s'.Name L r'.Line) S8 := by rw [← HE.out]; exact hH8
        exact bodyPost_ret (v := .tuple #[.slice A8 (ys.length + 1) c8, .bool true]) (by simp [results, Tryz.results184, go_sem]) rfl (RetFr.yes HF.out hH9 (by rw [← HE.out]; simp [frameGo]) (fun b hb => by
          rcases hS8 b hb with h | h
          · exact hS2 b h
          · have := hGw.size; simp at h; omega) (hon.gro (hGw.trans gG) hS2))
end Go.Proofs.YtgodpjnbhmahaaaGreat
