/-
  DRAW: the cursor's own functions: what they return lies in its range; they write the cursor's block alone.
-/
import Derived.Test.YtdlkoffandhclaaCut
import Derived.Test.YtdlkoffandhclaaOpen
import Derived.BigQuiet
import Derived.Deep.RegionHeld3
set_option linter.unusedVariables false
set_option linter.unusedSimpArgs false
namespace Go.Proofs.Ytdlkoffandhclaa
open Go.RowKit
theorem opens_byte {P : Program} {t : TypeId} (ht : P.underlying t = some (.int .u8)) : Opens P t byteT := by
  intro H enc W spare held fuel cs x h
  obtain ⟨n, rfl, _, hw⟩ := DataW.trod_int ht h
  have h1 : 0 ≤ n ∧ n ≤ 255 := by simpa [Lit.wf, IntKind.min, IntKind.max, IntKind.signed, IntKind.bits] using hw
  exact ⟨_, byte_mkR h1.1 (by omega)⟩
theorem and255 (a : Int) : ∃ n : Nat, bits .and .i64 a 255 = (n : Int) ∧ n < 256 := by
  refine ⟨((BitVec.ofInt 64 a &&& BitVec.ofInt 64 255).toNat), ?_, ?_⟩
  · show IntKind.i64.wrap ((BitVec.ofInt 64 a &&& BitVec.ofInt 64 255).toNat : Int) = _
    rw [BitVec.toNat_and, show (BitVec.ofInt 64 255).toNat = 2 ^ 8 - 1 from rfl, Nat.and_two_pow_sub_one_eq_mod]
    exact IntWalk.i64_in _ ⟨by omega, by omega⟩
  · rw [BitVec.toNat_and, show (BitVec.ofInt 64 255).toNat = 2 ^ 8 - 1 from rfl, Nat.and_two_pow_sub_one_eq_mod]
    omega
theorem cur_cells {W : World} {k : Nat} {a b c : Value} (h : W.heap[k]? = some (.cells #[a, b, c] 94 (0, 0))) :
    W.cell? ⟨k, 0, none⟩ = some a ∧ W.cell? ⟨k, 1, none⟩ = some b ∧ W.cell? ⟨k, 2, none⟩ = some c ∧ (∀ j, W.frozen? ⟨k, j, none⟩ = false) := by
  refine ⟨?_, ?_, ?_, fun j => by simp [World.frozen?, h]⟩
  all_goals
    rw [cell_of_row W k _ _ _ (0, 0) h]
    rfl
theorem and_i64 (a b : Int) : I64 (bits .and .i64 a b) := by
  show I64 (IntKind.i64.wrap _)
  rw [IntKind.wrap_i64]
  constructor <;> omega
theorem wrap64_i64 (n : Int) : I64 (wrap64 n) := by
  unfold wrap64
  constructor <;> omega
/-- the cursor written, and nothing else -/
structure CurS (w W0 W : World) (k : Nat) (A : Option Addr) (n c : Nat) (i h : Int) : Prop where
  lo : w.heap.size ≤ k
  gro : Gro w W
  only : OnlyS [k] W0 W
  blk : W.heap[k]? = some (.cells #[.slice A n c, .int .i64 i, .int .i64 h] 94 (0, 0))
  i0 : 0 ≤ i
  i1 : I64 i
  h1 : I64 h
  read : ∃ xs, (byteT.sl 5).R w w.heap.size [.slice A n c] xs
theorem CurS.out {w W0 W : World} {k : Nat} {A : Option Addr} {n c : Nat} {i h : Int} (H : CurS w W0 W k A n c i h) : Cur w W k ∧ OnlyS [k] W0 W := by
  obtain ⟨xs, hx⟩ := H.read
  exact ⟨⟨H.lo, H.gro, A, n, c, i, h, xs, H.blk, H.i0, H.i1, H.h1, hx⟩, H.only⟩
theorem CurS.seth {w W0 W : World} {k : Nat} {A : Option Addr} {n c : Nat} {i h h' : Int} (H : CurS w W0 W k A n c i h) (hb : I64 h') : CurS w W0 (W.setCell ⟨k, 2, none⟩ (.int .i64 h')) k A n c i h' :=
  ⟨H.lo, H.gro.setRow (p := ⟨k, 2, none⟩) H.lo _, H.only.setCell (p := ⟨k, 2, none⟩) (by simp) _, heap_setCell_at H.blk 2 _, H.i0, H.i1, hb, H.read⟩
theorem CurS.seti {w W0 W : World} {k : Nat} {A : Option Addr} {n c : Nat} {i h i' : Int} (H : CurS w W0 W k A n c i h) (hb0 : 0 ≤ i') (hb : I64 i') : CurS w W0 (W.setCell ⟨k, 1, none⟩ (.int .i64 i')) k A n c i' h :=
  ⟨H.lo, H.gro.setRow (p := ⟨k, 1, none⟩) H.lo _, H.only.setCell (p := ⟨k, 1, none⟩) (by simp) _, heap_setCell_at H.blk 1 _, hb0, hb, H.h1, H.read⟩
theorem CurS.drewN {w W0 W : World} {k : Nat} {A : Option Addr} {n c : Nat} {i h : Int} (H : CurS w W0 W k A n c i h) (m : Nat) : CurS w W0 (W.drewN m) k A n c i h :=
  ⟨H.lo, H.gro.drewN m, H.only.trans ((Gro.drewN (Gro.refl _) m).only _), H.blk, H.i0, H.i1, H.h1, H.read⟩
set_option maxRecDepth 100000 in
theorem byte_s {w W : World} {k : Nat} (hC : Cur w W k) : Calls Try.prog 69 #[.pointer (some ⟨k, 0, none⟩)] W fun e W' => ∃ x : Nat, e = .returned (.int .i64 (x : Int)) ∧ x < 256 ∧ Cur w W' k ∧ OnlyS [k] W W' := by
  obtain ⟨hlo, hgr, A, n, c, i, h, xs, hk, hi0, hi1, hh, hx⟩ := hC
  have H0 : CurS w W W k A n c i h := ⟨hlo, hgr, OnlyS.refl _ _, hk, hi0, hi1, hh, xs, hx⟩
  obtain ⟨_, _, hv, hxl, hcm⟩ := sl_at hx
  injection hv with hA hn hc
  subst hA hn hc
  obtain ⟨hc0, hc1, hc2, hfz⟩ := cur_cells hk
  have hf1 := hfz 1
  have hf2 := hfz 2
  go_enter Try.func69, Try.ntmps69
  go_wp2_with (fail)
  go_quiet (fail)
  go_wp2_with (fail)
  by_cases hlt : i < xs.length
  · obtain ⟨j, rfl⟩ := Int.eq_ofNat_of_zero_le hi0
    obtain ⟨g, off, x, ec, rfl, hgb, hxk, rfl, hcell⟩ := elem_at hx (k := j) (by omega)
    have hcx := cell_up hgr (hcell 0 _ rfl)
    simp only [show byteT.size = 1 from rfl, Nat.mul_one, Nat.add_zero] at hcx
    have hgk : g ≠ k := by omega
    have hxb := x.toNat_lt
    clear hcell hxk
    go_quiet (fail)
    go_wp2_with (fail)
    go_quiet (fail)
    go_wp2_with (fail)
    go_ret
    refine ⟨_, congrArg (fun z => Ending.returned (.int .i64 z)) (and255 _).choose_spec.1, (and255 _).choose_spec.2, ?_, ?_⟩
    · exact (((H0.seth (wrap64_i64 _)).seti (by omega) ⟨by omega, by omega⟩).drewN _).out.1
    · exact (((H0.seth (wrap64_i64 _)).seti (by omega) ⟨by omega, by omega⟩).drewN _).out.2
  · go_quiet (fail)
    go_wp2_with (fail)
    go_ret
    refine ⟨_, congrArg (fun z => Ending.returned (.int .i64 z)) (and255 _).choose_spec.1, (and255 _).choose_spec.2, ?_, ?_⟩
    · exact ((H0.seth (wrap64_i64 _)).drewN _).out.1
    · exact ((H0.seth (wrap64_i64 _)).drewN _).out.2
theorem new_blk {w : World} {os : Array Obj} {d : Nat} (b : Obj) (n : Nat) (h : n = w.heap.size + os.size := by rfl) : ((gro w os d).alloc b).heap[n]? = some b := by
  subst h
  have := heap_alloc_new (gro w os d) b
  rwa [gro_size] at this
set_option maxRecDepth 100000 in
theorem new_s {w : World} {A : Option Addr} {n c : Nat} {xs : List UInt8} (hx : (byteT.sl 5).R w w.heap.size [.slice A n c] xs) (hl : xs.length ≤ 1099511627776) : Calls Try.prog 46 #[.slice A n c] w fun e W' => ∃ k, e = .returned (.pointer (some ⟨k, 0, none⟩)) ∧ Cur w W' k := by
  have hx' := hx
  obtain ⟨_, _, hv, hxl, hcm⟩ := sl_at hx
  injection hv with hA hn hc
  subst hA hn hc
  go_enter Try.func46, Try.ntmps46
  go_wp2_with (fail)
  go_loopw [3, 4] (fun a b wr => ∃ (h : Int) (j : Nat), a = .int .i64 h ∧ b = .int .i64 j ∧ j ≤ xs.length ∧ I64 h ∧ Hid (Gro w wr)) (fun _ b _ => xs.length - (intOf b).toNat)
  case atStart => exact ⟨33147 + xs.length, 0, rfl, rfl, Nat.zero_le _, ⟨by omega, by omega⟩, Lib.hid (Gro.refl _)⟩
  case round =>
    obtain ⟨h, j, rfl, rfl, hj, hh, hG⟩ := hrel
    obtain ⟨os, d, rfl⟩ := hG.out
    clear hG
    by_cases hlt : j < xs.length ∧ j < 4000
    · obtain ⟨hlt1, hlt2⟩ := hlt
      obtain ⟨g, off, x, ec, rfl, hgb, hxk, rfl, hcell⟩ := elem_at hx (k := j) hlt1
      have hcx := hcell 0 _ rfl
      simp only [show byteT.size = 1 from rfl, Nat.mul_one, Nat.add_zero] at hcx
      have hxb := x.toNat_lt
      clear hcell hxk hx
      go_wp2_with (fail)
      go_roundw
      case rel => exact ⟨_, j + 1, rfl, by go_num, by omega, and_i64 _ _, Lib.hid (by repeat (first | with_reducible exact Gro.refl _ | with_reducible exact Gro.refl_drew _ _ _ | with_reducible exact Gro.refl_drewN _ _ _ _ | assumption | with_reducible apply Gro.more | with_reducible apply Gro.alloc | with_reducible apply Gro.drew | with_reducible apply Gro.drewN))⟩
      case measure => simp [intOf]; omega
    · by_cases hlt1 : j < xs.length
      · have hlt2 : ¬ j < 4000 := fun h => hlt ⟨hlt1, h⟩
        go_wp2_with (fail)
        go_ret
        refine ⟨_, rfl, ?_⟩
        exact ⟨by omega, (by repeat (first | with_reducible exact Gro.refl _ | with_reducible exact Gro.refl_drew _ _ _ | with_reducible exact Gro.refl_drewN _ _ _ _ | assumption | with_reducible apply Gro.more | with_reducible apply Gro.alloc | with_reducible apply Gro.drew | with_reducible apply Gro.drewN)), _, _, _, 0, h, xs, new_blk _ _, Int.le_refl _, ⟨by omega, by omega⟩, hh, hx⟩
      · go_wp2_with (fail)
        go_ret
        refine ⟨_, rfl, ?_⟩
        exact ⟨by omega, (by repeat (first | with_reducible exact Gro.refl _ | with_reducible exact Gro.refl_drew _ _ _ | with_reducible exact Gro.refl_drewN _ _ _ _ | assumption | with_reducible apply Gro.more | with_reducible apply Gro.alloc | with_reducible apply Gro.drew | with_reducible apply Gro.drewN)), _, _, _, 0, h, xs, new_blk _ _, Int.le_refl _, ⟨by omega, by omega⟩, hh, hx⟩
set_option maxRecDepth 100000 in
theorem below_n {w W : World} {k : Nat} (hC : Cur w W k) (n : Nat) (hn : 0 < n) (hn2 : n ≤ 1099511627776) : Calls Try.prog 47 #[.pointer (some ⟨k, 0, none⟩), .int .i64 (n : Int)] W fun e W' => ∃ x : Nat, e = .returned (.int .i64 (x : Int)) ∧ x < n ∧ Cur w W' k ∧ OnlyS [k] W W' := by
  by_cases h : n ≤ 256
  · go_enter Try.func47, Try.ntmps47
    go_wp2_with (go_at_call 69; (with_reducible refine (byte_s hC).mono ?_); rintro e W1 ⟨x, rfl, hx, hC1, hS1⟩)
    go_ret
    refine ⟨x % n, ?_, Nat.mod_lt _ hn, hC1, hS1⟩
    exact ret_int (show (x : Int) % (n : Int) = ((x % n : Nat) : Int) from (Int.natCast_emod x n).symm)
  · go_enter Try.func47, Try.ntmps47
    go_wp2_with (fail)
    refine (byte_s hC).mono ?_
    rintro e W1 ⟨x1, rfl, hx1, hC1, hS1⟩
    go_wp2_with (fail)
    refine (byte_s hC1).mono ?_
    rintro e W2 ⟨x2, rfl, hx2, hC2, hS2⟩
    go_wp2_with (fail)
    refine (byte_s hC2).mono ?_
    rintro e W3 ⟨x3, rfl, hx3, hC3, hS3⟩
    go_wp2_with (fail)
    refine (byte_s hC3).mono ?_
    rintro e W4 ⟨x4, rfl, hx4, hC4, hS4⟩
    go_wp2_with (fail)
    go_ret
    refine ⟨(x1 * 16777216 + x2 * 65536 + x3 * 256 + x4) % n, ?_, Nat.mod_lt _ hn, hC4, ((hS1.trans hS2).trans hS3).trans hS4⟩
    exact ret_int (show ((x1 : Int) * 16777216 + x2 * 65536 + x3 * 256 + x4) % (n : Int) = (((x1 * 16777216 + x2 * 65536 + x3 * 256 + x4) % n : Nat) : Int) from by rw [Int.natCast_emod]; rfl)
theorem below_s {w W : World} {k : Nat} (hC : Cur w W k) (n : Int) (hn : 0 < n) (hn2 : n ≤ 1099511627776) : Calls Try.prog 47 #[.pointer (some ⟨k, 0, none⟩), .int .i64 n] W fun e W' => ∃ x : Nat, e = .returned (.int .i64 (x : Int)) ∧ (x : Int) < n ∧ Cur w W' k ∧ OnlyS [k] W W' := by
  obtain ⟨n, rfl⟩ := Int.eq_ofNat_of_zero_le (show 0 ≤ n by omega)
  refine (below_n hC n (by omega) (by omega)).mono ?_
  rintro e W' ⟨x, h1, h2, h3⟩
  exact ⟨x, h1, by omega, h3⟩
end Go.Proofs.Ytdlkoffandhclaa
