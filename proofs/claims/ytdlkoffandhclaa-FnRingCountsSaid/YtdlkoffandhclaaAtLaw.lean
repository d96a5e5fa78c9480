/-
  AT of the laws: the bytes of the input, by number; copies and comparisons of lists of texts.
-/
import Derived.Test.YtdlkoffandhclaaDraw
import Derived.Test.YtdlkoffandhclaaOwn
import Derived.Test.YtdlkoffandhclaaLists
import Derived.Test.YtdlkoffandhclaaRing
import Derived.BigQuiet
set_option linter.unusedVariables false
set_option linter.unusedSimpArgs false
namespace Go.Proofs.Ytdlkoffandhclaa
open Go.RowKit
def byteAt (xs : List UInt8) (i : Nat) : Nat := ((xs[(i * 5 + 1) % xs.length]?).getD 0).toNat
theorem byteAt_lt (xs : List UInt8) (i : Nat) : byteAt xs i < 256 := UInt8.toNat_lt _
set_option maxRecDepth 100000 in
set_option maxHeartbeats 2000000 in
theorem at_l {xs : List UInt8} {w : World} {A : Option Addr} {c : Nat} (hx : (byteT.sl 5).R w w.heap.size [.slice A xs.length c] xs) (i : Nat) (hi : i ≤ 1000000000) (hl : xs.length ≤ 1099511627776) :
    Calls Try.prog 12 #[.slice A xs.length c, .int .i64 (i : Int)] w fun e w' => e = .returned (.int .i64 (byteAt xs i : Int)) ∧ Gro w w' := by
  by_cases h0 : xs.length = 0
  · have hb : (((xs.length : Nat) : Int) == 0) = true := by simp [h0]
    have HV := Lib.hid (show (0 : Int) = (byteAt xs i : Int) from by
      have : xs = [] := List.eq_nil_of_length_eq_zero h0
      subst this
      rfl)
    clear h0
    go_enter Try.func12, Try.ntmps12
    go_wp2_with (fail)
    go_ret
    exact ⟨ret_int HV.out, Gro.refl _⟩
  · have hb : (((xs.length : Nat) : Int) == 0) = false := by simp only [beq_eq_false_iff_ne]; omega
    obtain ⟨n, hn⟩ : ∃ n, (i * 5 + 1) % xs.length = n := ⟨_, rfl⟩
    have hnl : n < xs.length := by rw [← hn]; exact Nat.mod_lt _ (by omega)
    obtain ⟨g, off, x, ec, rfl, hgb, hxk, rfl, hcell⟩ := elem_at hx (k := n) hnl
    have hcx := hcell 0 _ rfl
    simp only [show byteT.size = 1 from rfl, Nat.mul_one, Nat.add_zero] at hcx
    have hw1 : IntKind.i64.wrap ((i : Int) * 5) = (i : Int) * 5 := IntWalk.i64_in _ ⟨by omega, by omega⟩
    have hw2 : IntKind.i64.wrap ((i : Int) * 5 + 1) = (i : Int) * 5 + 1 := IntWalk.i64_in _ ⟨by omega, by omega⟩
    have hm : Int.tmod ((i : Int) * 5 + 1) (xs.length : Int) = (n : Int) := by
      rw [Int.tmod_eq_emod_of_nonneg (by omega), show (i : Int) * 5 + 1 = ((i * 5 + 1 : Nat) : Int) from by omega, ← Int.natCast_emod, hn]
    have hz : ¬ ((xs.length : Nat) : Int) = 0 := by omega
    have hni : (n : Int) < (xs.length : Int) := by omega
    have hn0 : (0 : Int) ≤ (n : Int) := by omega
    have HV := Lib.hid (show ((x.toNat : Nat) : Int) = (byteAt xs i : Int) from by
      unfold byteAt
      rw [hn, hxk]
      rfl)
    have hxb := x.toNat_lt
    clear hcell hxk hx h0 hn
    go_enter Try.func12, Try.ntmps12
    go_wp2_with (fail)
    go_ret
    exact ⟨ret_int HV.out, (by repeat (first | with_reducible exact Gro.refl _ | with_reducible exact Gro.refl_drew _ _ _ | with_reducible exact Gro.refl_drewN _ _ _ _ | assumption | with_reducible apply Gro.more | with_reducible apply Gro.alloc | with_reducible apply Gro.drew | with_reducible apply Gro.drewN))⟩
theorem at_z {xs : List UInt8} {w : World} {A : Option Addr} {c : Nat} {z : Int} {b : Nat} (hx : (byteT.sl 5).R w w.heap.size [.slice A xs.length c] xs) (i : Nat) (hz : z = (i : Int)) (hv : byteAt xs i = b) (hi : i ≤ 1000000000) (hl : xs.length ≤ 1099511627776) :
    Calls Try.prog 12 #[.slice A xs.length c, .int .i64 z] w fun e w' => e = .returned (.int .i64 (b : Int)) ∧ Gro w w' := by
  subst hz hv
  exact at_l hx i hi hl
set_option maxRecDepth 100000 in
theorem copyTexts_l {xs : List ByteArray} {w : World} {A : Option Addr} {c : Nat} (hx : (strT.sl 9).R w w.heap.size [.slice A xs.length c] xs) (hl : xs.length ≤ 1099511627776) :
    Calls Try.prog 18 #[.slice A xs.length c] w (RetSl strT 9 xs w) := by
  go_enter Try.func18, Try.ntmps18
  go_wp2_with (refine wpList_append_hasl (L := 0 + xs.length) rfl (.tmp 3) (.tmp 4) el_str flat_str (S := [w.heap.size]) (Has.emp strT (heap_alloc_new w _)) (Ty.up _ hx (by repeat (first | with_reducible exact Gro.refl _ | with_reducible exact Gro.refl_drew _ _ _ | with_reducible exact Gro.refl_drewN _ _ _ _ | assumption | with_reducible apply Gro.more | with_reducible apply Gro.alloc | with_reducible apply Gro.drew | with_reducible apply Gro.drewN))) rfl rfl rfl rfl (by omega) (by omega) ?_; intro A6 c6 W6 S6 hon hH hS)
  go_ret
  have hG : Gro w W6 := hon.gro ((Gro.refl w).alloc _) (fun b hb => by simp at hb; omega)
  have hz := hon.size
  simp at hz
  exact ⟨A6, c6, by simp, by simpa using hH.fresh (w := w) (fun b hb => by have := hS b hb; simp at this; omega), hG⟩
set_option maxRecDepth 100000 in
set_option maxHeartbeats 2000000 in
theorem sameTexts_l {xs ys : List ByteArray} {w : World} {A A' : Option Addr} {c c' : Nat} (hx : (strT.sl 9).R w w.heap.size [.slice A xs.length c] xs) (hy : (strT.sl 9).R w w.heap.size [.slice A' ys.length c'] ys) :
    Calls Try.prog 17 #[.slice A xs.length c, .slice A' ys.length c'] w fun e w' => e = .returned (.bool (decide (xs = ys))) ∧ Gro w w' := by
  obtain ⟨_, _, hv, h1, h2⟩ := sl_at hx
  obtain ⟨_, _, hv', k1, k2⟩ := sl_at hy
  injection hv with q1 _ q2
  injection hv' with q3 _ q4
  subst q1 q2 q3 q4
  by_cases hl : xs.length = ys.length
  · have hne : ((xs.length : Int) != (ys.length : Int)) = false := by simp [hl]
    have HL := Lib.hid hl
    have hll : xs.length ≤ ys.length := by omega
    clear hl
    go_enter Try.func17, Try.ntmps17
    go_wp2_with (fail)
    go_loopw [5] (fun i wr => ∃ k : Nat, k ≤ xs.length ∧ i = .int .i64 k ∧ Hid (Gro w wr) ∧ Hid (xs.take k = ys.take k)) (fun i _ => xs.length - (intOf i).toNat)
    case atStart => exact ⟨0, Nat.zero_le _, rfl, Gro.refl _, Lib.hid (by simp)⟩
    case round =>
      obtain ⟨k, hk, rfl, hG, HT⟩ := hrel
      obtain ⟨os, d, rfl⟩ := hG.out
      clear hG
      by_cases hlt : k < xs.length
      · have hlt2 : k < ys.length := by omega
        obtain ⟨g, off, x, rfl, hxk, hx0, bx0⟩ := strs_at hx hlt
        obtain ⟨g', off', y, rfl, hyk, hy0, by0⟩ := strs_at hy hlt2
        have hgb : g < w.heap.size := World.block_lt_of_cell? w _ hx0
        have hgb' : g' < w.heap.size := World.block_lt_of_cell? w _ hy0
        have HX := Lib.hid hxk
        have HY := Lib.hid hyk
        have hi1 : (k : Int) < (xs.length : Int) := by omega
        have hi2 : (k : Int) < (ys.length : Int) := by omega
        clear hxk hyk hx hy
        by_cases hs : x = y
        · have hsb : (x.toList == y.toList) = true := by rw [str_eqb]; simp [hs]
          have HXY := Lib.hid hs
          clear hs
          go_wp2_with (fail)
          go_quiet (fail)
          go_wp2_with (fail)
          go_roundw
          case rel => exact ⟨k + 1, by omega, by go_num, Lib.hid (by repeat (first | with_reducible exact Gro.refl _ | with_reducible exact Gro.refl_drew _ _ _ | with_reducible exact Gro.refl_drewN _ _ _ _ | assumption | with_reducible apply Gro.more | with_reducible apply Gro.alloc | with_reducible apply Gro.drew | with_reducible apply Gro.drewN)), Lib.hid (by rw [take_snoc HX.out, take_snoc HY.out, HT.out, HXY.out])⟩
          case measure => simp [intOf]; omega
        · have hsb : (x.toList == y.toList) = false := by rw [str_eqb]; simp [hs]
          have HXY := Lib.hid hs
          clear hs
          go_wp2_with (fail)
          go_quiet (fail)
          go_wp2_with (fail)
          go_ret
          refine ⟨ret_bool ?_, (by repeat (first | with_reducible exact Gro.refl _ | with_reducible exact Gro.refl_drew _ _ _ | with_reducible exact Gro.refl_drewN _ _ _ _ | assumption | with_reducible apply Gro.more | with_reducible apply Gro.alloc | with_reducible apply Gro.drew | with_reducible apply Gro.drewN))⟩
          symm
          simp only [decide_eq_false_iff_not]
          rintro rfl
          have h9 := HX.out.symm.trans HY.out
          simp at h9
          exact HXY.out h9
      · go_wp2
        go_ret
        refine ⟨ret_bool ?_, (by repeat (first | with_reducible exact Gro.refl _ | with_reducible exact Gro.refl_drew _ _ _ | with_reducible exact Gro.refl_drewN _ _ _ _ | assumption | with_reducible apply Gro.more | with_reducible apply Gro.alloc | with_reducible apply Gro.drew | with_reducible apply Gro.drewN))⟩
        have : k = xs.length := by omega
        subst this
        have h1 := HT.out
        rw [HL.out] at h1
        simp only [List.take_length] at h1
        rw [← HL.out] at h1
        simp at h1
        simp [h1]
  · have hne : ((xs.length : Int) != (ys.length : Int)) = true := by simp; omega
    go_enter Try.func17, Try.ntmps17
    go_wp2
    go_ret
    exact ⟨ret_bool (by symm; simp only [decide_eq_false_iff_not]; rintro rfl; exact hl rfl), Gro.refl _⟩
theorem sameTexts_n {xs ys : List ByteArray} {w : World} {A A' : Option Addr} {c c' n : Nat} (hn : n = xs.length) (hx : (strT.sl 9).R w w.heap.size [.slice A n c] xs) (hy : (strT.sl 9).R w w.heap.size [.slice A' ys.length c'] ys) (he : xs = ys) :
    Calls Try.prog 17 #[.slice A n c, .slice A' ys.length c'] w fun e w' => e = .returned (.bool true) ∧ Gro w w' := by
  subst hn
  refine (sameTexts_l hx hy).mono ?_
  rw [decide_eq_true he]
  exact fun e w1 h => h
end Go.Proofs.Ytdlkoffandhclaa
