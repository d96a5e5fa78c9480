/-
  The law FnStored answers true for every input: a drawn profile decodes from its bytes and from no longer ones, its names ascend, and tidy ones of equal profiles have equal bytes; the input stays. No condition.
-/
import Derived.Test.YtcomafmiclkmhaaGreatDoorCut
import Derived.Test.YtcomafmiclkmhaaGreatDoorOpen
import Derived.BigQuiet
import Derived.Deep.RegionHeld3
import Derived.Test.YtcomafmiclkmhaaGreatDoorFmt
import Derived.Lib.Split
import Derived.Test.YtcomafmiclkmhaaGreatDoorBox4
import Derived.Deep.AppendSrc
import Derived.Test.YtcomafmiclkmhaaGreatDoorLsFrame
import Derived.Deep.RegionLaw
import Derived.Test.YtcomafmiclkmhaaGreatDoorShelf
import Derived.Test.YtcomafmiclkmhaaGreatDoorProfile2
import Derived.Test.YtcomafmiclkmhaaGreatDoorEntLaw
import Derived.Test.YtcomafmiclkmhaaGreatDoorLsEntry
import Derived.Test.YtcomafmiclkmhaaGreatDoorEnts
import Derived.Test.YtcomafmiclkmhaaGreatDoorEnts2
import Derived.Test.YtcomafmiclkmhaaGreatDoorVarint3
import Derived.Test.YtcomafmiclkmhaaGreatDoorFnSample
import Derived.Test.YtcomafmiclkmhaaGreatDoorDecPLaw
import Derived.Test.YtcomafmiclkmhaaGreatDoorStacks3
import Derived.Test.YtcomafmiclkmhaaGreatDoorBox2
import Derived.Deep.RegionWith
import Derived.Test.YtcomafmiclkmhaaGreatDoorBoxes
import Derived.Test.YtcomafmiclkmhaaGreatDoorSameP
import Derived.Test.YtcomafmiclkmhaaGreatDoorProg
import Derived.HandedShaped
import Derived.Lay
import Derived.Test.YtcomafmiclkmhaaGreatDoorReader
import Derived.Test.YtcomafmiclkmhaaGreatDoorEncP2
import Derived.Deep.CutRange
import Derived.Test.YtcomafmiclkmhaaGreatDoorBase
import Derived.Test.YtcomafmiclkmhaaGreatDoorRows
import Derived.Test.YtcomafmiclkmhaaGreatDoorNames2
import Derived.Test.YtcomafmiclkmhaaGreatDoorTie
import Derived.Test.YtcomafmiclkmhaaGreatDoorCards
import Derived.LaidMore
import Derived.Stop.Joined
import Derived.SevenTiedAt
import Derived.ShutString
set_option linter.unusedVariables false
set_option linter.unusedSimpArgs false
namespace Go.Proofs.YtcomafmiclkmhaaGreatDoor
open Go.RowKit
theorem opens_byte {P : Program} {t : TypeId} (ht : P.underlying t = some (.int .u8)) : Opens P t byteT := by
  intro H enc W spare held fuel cs x h
  obtain ⟨n, rfl, _, hw⟩ := DataW.trod_int ht h
  have h1 : 0 ≤ n ∧ n ≤ 255 := by simpa [Lit.wf, IntKind.min, IntKind.max, IntKind.signed, IntKind.bits] using hw
  exact ⟨_, byte_mkR h1.1 (by omega)⟩
theorem and255 (a : Int) : ∃ n : Nat, bits .and .i64 a 255 = (n : Int) ∧ n < 256 := by
  refine ⟨((BitVec.ofInt 64 a &&& BitVec.ofInt 64 255).toNat), ?_, ?_⟩
  · show IntKind.i64.wrap ((BitVec.ofInt 64 a &&& BitVec.ofInt 64 255).toNat : Int) = _
    rw [BitVec.toNat_and, show (BitVec.ofInt 64 255).toNat = 2 ^ 8 - 1 from rfl, Nat.and_two_pow_sub_one_eq_mod]
    exact IntWalk.i64_in _ ⟨by omega, by omega⟩
  · rw [BitVec.toNat_and, show (BitVec.ofInt 64 255).toNat = 2 ^ 8 - 1 from rfl, Nat.and_two_pow_sub_one_eq_mod]
    omega
theorem cur_cells {W : World} {k : Nat} {a b c : Value} (h : W.heap[k]? = some (.cells #[a, b, c] 64 (0, 0))) :
    W.cell? ⟨k, 0, none⟩ = some a ∧ W.cell? ⟨k, 1, none⟩ = some b ∧ W.cell? ⟨k, 2, none⟩ = some c ∧ (∀ j, W.frozen? ⟨k, j, none⟩ = false) := by
  refine ⟨?_, ?_, ?_, fun j => by simp [World.frozen?, h]⟩
  all_goals
    rw [cell_of_row W k _ _ _ (0, 0) h]
    rfl
theorem and_i64 (a b : Int) : I64 (bits .and .i64 a b) := by
  show I64 (IntKind.i64.wrap _)
  rw [IntKind.wrap_i64]
  constructor <;> omega
theorem wrap64_i64 (n : Int) : I64 (wrap64 n) := by
  unfold wrap64
  constructor <;> omega
/-- the cursor written, and nothing else -/
structure CurS (w W0 W : World) (k : Nat) (A : Option Addr) (n c : Nat) (i h : Int) : Prop where
  lo : w.heap.size ≤ k
  gro : Gro w W
  only : OnlyS [k] W0 W
  blk : W.heap[k]? = some (.cells #[.slice A n c, .int .i64 i, .int .i64 h] 64 (0, 0))
  i0 : 0 ≤ i
  i1 : I64 i
  h1 : I64 h
  read : ∃ xs, (byteT.sl 5).R w w.heap.size [.slice A n c] xs
theorem CurS.out {w W0 W : World} {k : Nat} {A : Option Addr} {n c : Nat} {i h : Int} (H : CurS w W0 W k A n c i h) : Cur w W k ∧ OnlyS [k] W0 W := by
  obtain ⟨xs, hx⟩ := H.read
  exact ⟨⟨H.lo, H.gro, A, n, c, i, h, xs, H.blk, H.i0, H.i1, H.h1, hx⟩, H.only⟩
theorem CurS.seth {w W0 W : World} {k : Nat} {A : Option Addr} {n c : Nat} {i h h' : Int} (H : CurS w W0 W k A n c i h) (hb : I64 h') : CurS w W0 (W.setCell ⟨k, 2, none⟩ (.int .i64 h')) k A n c i h' :=
  ⟨H.lo, H.gro.setRow (p := ⟨k, 2, none⟩) H.lo _, H.only.setCell (p := ⟨k, 2, none⟩) (by simp) _, heap_setCell_at H.blk 2 _, H.i0, H.i1, hb, H.read⟩
theorem CurS.seti {w W0 W : World} {k : Nat} {A : Option Addr} {n c : Nat} {i h i' : Int} (H : CurS w W0 W k A n c i h) (hb0 : 0 ≤ i') (hb : I64 i') : CurS w W0 (W.setCell ⟨k, 1, none⟩ (.int .i64 i')) k A n c i' h :=
  ⟨H.lo, H.gro.setRow (p := ⟨k, 1, none⟩) H.lo _, H.only.setCell (p := ⟨k, 1, none⟩) (by simp) _, heap_setCell_at H.blk 1 _, hb0, hb, H.h1, H.read⟩
theorem CurS.drewN {w W0 W : World} {k : Nat} {A : Option Addr} {n c : Nat} {i h : Int} (H : CurS w W0 W k A n c i h) (m : Nat) : CurS w W0 (W.drewN m) k A n c i h :=
  ⟨H.lo, H.gro.drewN m, H.only.trans ((Gro.drewN (Gro.refl _) m).only _), H.blk, H.i0, H.i1, H.h1, H.read⟩
set_option maxRecDepth 100000 in
theorem byte_s {w W : World} {k : Nat} (hC : Cur w W k) : Calls Tryz.prog 50 #[.pointer (some ⟨k, 0, none⟩)] W fun e W' => ∃ x : Nat, e = .returned (.int .i64 (x : Int)) ∧ x < 256 ∧ Cur w W' k ∧ OnlyS [k] W W' := by
  obtain ⟨hlo, hgr, A, n, c, i, h, xs, hk, hi0, hi1, hh, hx⟩ := hC
  have H0 : CurS w W W k A n c i h := ⟨hlo, hgr, OnlyS.refl _ _, hk, hi0, hi1, hh, xs, hx⟩
  obtain ⟨_, _, hv, hxl, hcm⟩ := sl_at hx
  injection hv with hA hn hc
  subst hA hn hc
  obtain ⟨hc0, hc1, hc2, hfz⟩ := cur_cells hk
  have hf1 := hfz 1
  have hf2 := hfz 2
  go_enter Tryz.func50, Tryz.ntmps50
  go_wp2_with (fail)
  go_quiet (fail)
  go_wp2_with (fail)
  by_cases hlt : i < xs.length
  · obtain ⟨j, rfl⟩ := Int.eq_ofNat_of_zero_le hi0
    obtain ⟨g, off, x, ec, rfl, hgb, hxk, rfl, hcell⟩ := elem_at hx (k := j) (by omega)
    have hcx := cell_up hgr (hcell 0 _ rfl)
    simp only [show byteT.size = 1 from rfl, Nat.mul_one, Nat.add_zero] at hcx
    have hgk : g ≠ k := by omega
    have hxb := x.toNat_lt
    clear hcell hxk
    go_quiet (fail)
    go_wp2_with (fail)
    go_quiet (fail)
    go_wp2_with (fail)
    go_ret
    refine ⟨_, congrArg (fun z => Ending.returned (.int .i64 z)) (and255 _).choose_spec.1, (and255 _).choose_spec.2, ?_, ?_⟩
    · exact (((H0.seth (wrap64_i64 _)).seti (by omega) ⟨by omega, by omega⟩).drewN _).out.1
    · exact (((H0.seth (wrap64_i64 _)).seti (by omega) ⟨by omega, by omega⟩).drewN _).out.2
  · go_quiet (fail)
    go_wp2_with (fail)
    go_ret
    refine ⟨_, congrArg (fun z => Ending.returned (.int .i64 z)) (and255 _).choose_spec.1, (and255 _).choose_spec.2, ?_, ?_⟩
    · exact ((H0.seth (wrap64_i64 _)).drewN _).out.1
    · exact ((H0.seth (wrap64_i64 _)).drewN _).out.2
theorem new_blk {w : World} {os : Array Obj} {d : Nat} (b : Obj) (n : Nat) (h : n = w.heap.size + os.size := by rfl) : ((gro w os d).alloc b).heap[n]? = some b := by
  subst h
  have := heap_alloc_new (gro w os d) b
  rwa [gro_size] at this
set_option maxRecDepth 100000 in
theorem new_s {w : World} {A : Option Addr} {n c : Nat} {xs : List UInt8} (hx : (byteT.sl 5).R w w.heap.size [.slice A n c] xs) (hl : xs.length ≤ 1099511627776) : Calls Tryz.prog 12 #[.slice A n c] w fun e W' => ∃ k, e = .returned (.pointer (some ⟨k, 0, none⟩)) ∧ Cur w W' k := by
  have hx' := hx
  obtain ⟨_, _, hv, hxl, hcm⟩ := sl_at hx
  injection hv with hA hn hc
  subst hA hn hc
  go_enter Tryz.func12, Tryz.ntmps12
  go_wp2_with (fail)
  go_loopw [3, 4] (fun a b wr => ∃ (h : Int) (j : Nat), a = .int .i64 h ∧ b = .int .i64 j ∧ j ≤ xs.length ∧ I64 h ∧ Hid (Gro w wr)) (fun _ b _ => xs.length - (intOf b).toNat)
  case atStart => exact ⟨33147 + xs.length, 0, rfl, rfl, Nat.zero_le _, ⟨by omega, by omega⟩, Lib.hid (Gro.refl _)⟩
  case round =>
    obtain ⟨h, j, rfl, rfl, hj, hh, hG⟩ := hrel
    obtain ⟨os, d, rfl⟩ := hG.out
    clear hG
    by_cases hlt : j < xs.length ∧ j < 4000
    · obtain ⟨hlt1, hlt2⟩ := hlt
      obtain ⟨g, off, x, ec, rfl, hgb, hxk, rfl, hcell⟩ := elem_at hx (k := j) hlt1
      have hcx := hcell 0 _ rfl
      simp only [show byteT.size = 1 from rfl, Nat.mul_one, Nat.add_zero] at hcx
      have hxb := x.toNat_lt
      clear hcell hxk hx
      go_wp2_with (fail)
      go_roundw
      case rel => exact ⟨_, j + 1, rfl, by go_num, by omega, and_i64 _ _, Lib.hid (by repeat (first | with_reducible exact Gro.refl _ | with_reducible exact Gro.refl_drew _ _ _ | with_reducible exact Gro.refl_drewN _ _ _ _ | assumption | with_reducible apply Gro.more | with_reducible apply Gro.alloc | with_reducible apply Gro.drew | with_reducible apply Gro.drewN))⟩
      case measure => simp [intOf]; omega
    · by_cases hlt1 : j < xs.length
      · have hlt2 : ¬ j < 4000 := fun h => hlt ⟨hlt1, h⟩
        go_wp2_with (fail)
        go_ret
        refine ⟨_, rfl, ?_⟩
        exact ⟨by omega, (by repeat (first | with_reducible exact Gro.refl _ | with_reducible exact Gro.refl_drew _ _ _ | with_reducible exact Gro.refl_drewN _ _ _ _ | assumption | with_reducible apply Gro.more | with_reducible apply Gro.alloc | with_reducible apply Gro.drew | with_reducible apply Gro.drewN)), _, _, _, 0, h, xs, new_blk _ _, Int.le_refl _, ⟨by omega, by omega⟩, hh, hx⟩
      · go_wp2_with (fail)
        go_ret
        refine ⟨_, rfl, ?_⟩
        exact ⟨by omega, (by repeat (first | with_reducible exact Gro.refl _ | with_reducible exact Gro.refl_drew _ _ _ | with_reducible exact Gro.refl_drewN _ _ _ _ | assumption | with_reducible apply Gro.more | with_reducible apply Gro.alloc | with_reducible apply Gro.drew | with_reducible apply Gro.drewN)), _, _, _, 0, h, xs, new_blk _ _, Int.le_refl _, ⟨by omega, by omega⟩, hh, hx⟩
set_option maxRecDepth 100000 in
theorem below_n {w W : World} {k : Nat} (hC : Cur w W k) (n : Nat) (hn : 0 < n) (hn2 : n ≤ 1099511627776) : Calls Tryz.prog 28 #[.pointer (some ⟨k, 0, none⟩), .int .i64 (n : Int)] W fun e W' => ∃ x : Nat, e = .returned (.int .i64 (x : Int)) ∧ x < n ∧ Cur w W' k ∧ OnlyS [k] W W' := by
  by_cases h : n ≤ 256
  · go_enter Tryz.func28, Tryz.ntmps28
    go_wp2_with (go_at_call 50; (with_reducible refine (byte_s hC).mono ?_); rintro e W1 ⟨x, rfl, hx, hC1, hS1⟩)
    go_ret
    refine ⟨x % n, ?_, Nat.mod_lt _ hn, hC1, hS1⟩
    exact ret_int (show (x : Int) % (n : Int) = ((x % n : Nat) : Int) from (Int.natCast_emod x n).symm)
  · go_enter Tryz.func28, Tryz.ntmps28
    go_wp2_with (fail)
    refine (byte_s hC).mono ?_
    rintro e W1 ⟨x1, rfl, hx1, hC1, hS1⟩
    go_wp2_with (fail)
    refine (byte_s hC1).mono ?_
    rintro e W2 ⟨x2, rfl, hx2, hC2, hS2⟩
    go_wp2_with (fail)
    refine (byte_s hC2).mono ?_
    rintro e W3 ⟨x3, rfl, hx3, hC3, hS3⟩
    go_wp2_with (fail)
    refine (byte_s hC3).mono ?_
    rintro e W4 ⟨x4, rfl, hx4, hC4, hS4⟩
    go_wp2_with (fail)
    go_ret
    refine ⟨(x1 * 16777216 + x2 * 65536 + x3 * 256 + x4) % n, ?_, Nat.mod_lt _ hn, hC4, ((hS1.trans hS2).trans hS3).trans hS4⟩
    exact ret_int (show ((x1 : Int) * 16777216 + x2 * 65536 + x3 * 256 + x4) % (n : Int) = (((x1 * 16777216 + x2 * 65536 + x3 * 256 + x4) % n : Nat) : Int) from by rw [Int.natCast_emod]; rfl)
theorem below_s {w W : World} {k : Nat} (hC : Cur w W k) (n : Int) (hn : 0 < n) (hn2 : n ≤ 1099511627776) : Calls Tryz.prog 28 #[.pointer (some ⟨k, 0, none⟩), .int .i64 n] W fun e W' => ∃ x : Nat, e = .returned (.int .i64 (x : Int)) ∧ (x : Int) < n ∧ Cur w W' k ∧ OnlyS [k] W W' := by
  obtain ⟨n, rfl⟩ := Int.eq_ofNat_of_zero_le (show 0 ≤ n by omega)
  refine (below_n hC n (by omega) (by omega)).mono ?_
  rintro e W' ⟨x, h1, h2, h3⟩
  exact ⟨x, h1, by omega, h3⟩
set_option maxRecDepth 100000 in
theorem pick_s {w W : World} {k : Nat} (hC : Cur w W k) {A : Option Addr} {n c : Nat} {xs : List Int} (hx : (intT.sl 3).R W W.heap.size [.slice A n c] xs) (hk : ∀ ad, A = some ad → ad.block ≠ k) (h0 : 0 < n) (h1 : n ≤ 1000000) : Calls Tryz.prog 31 #[.pointer (some ⟨k, 0, none⟩), .slice A n c] W fun e W' => ∃ x : Int, e = .returned (.int .i64 x) ∧ x ∈ xs ∧ Cur w W' k ∧ OnlyS [k] W W' := by
  obtain ⟨_, _, hv, hxl, hcm⟩ := sl_at hx
  injection hv with hA hn hc
  subst hA hn hc
  go_enter Tryz.func31, Tryz.ntmps31
  go_wp2_with (fail)
  refine (below_s hC xs.length (by omega) (by omega)).mono ?_
  rintro e W1 ⟨i, rfl, hi, hC1, hS1⟩
  obtain ⟨g, off, x, ec, rfl, hgb, hxk, hR, hcell⟩ := elem_at hx (k := i) (by omega)
  obtain ⟨rfl, _⟩ := hR
  have hcx := (hS1.cell hgb (by simpa using hk _ rfl) _).trans (hcell 0 _ rfl)
  simp only [show intT.size = 1 from rfl, Nat.mul_one, Nat.add_zero] at hcx
  go_wp2_with (fail)
  go_ret
  exact ⟨x, rfl, List.mem_of_getElem? hxk, hC1, hS1⟩
end Go.Proofs.YtcomafmiclkmhaaGreatDoor
namespace Go.Proofs.YtcomafmiclkmhaaGreatDoor
open Go.RowKit
set_option maxRecDepth 100000 in
theorem big_l (A : Option Addr) (n c : Nat) (w : World) : Calls Tryz.prog 4 #[.slice A n c] w fun e w' => e = .returned (.bool (decide (1048576 < (n : Int)))) ∧ Gro w w' := by
  go_enter Tryz.func4, Tryz.ntmps4
  go_wp2_with (fail)
  go_ret
  exact ⟨rfl, (by repeat (first | with_reducible exact Gro.refl _ | with_reducible exact Gro.refl_drew _ _ _ | with_reducible exact Gro.refl_drewN _ _ _ _ | assumption | with_reducible apply Gro.more | with_reducible apply Gro.alloc | with_reducible apply Gro.drew | with_reducible apply Gro.drewN))⟩
end Go.Proofs.YtcomafmiclkmhaaGreatDoor
namespace Go.Proofs.YtcomafmiclkmhaaGreatDoor
open Go.RowKit
def cutA (c : UInt8) : List UInt8 → List UInt8 → List (List UInt8)
  | cur, [] => [cur]
  | cur, b :: l => if b = c then cur :: cutA c [] l else cutA c (cur ++ [b]) l
theorem cutA_no {c : UInt8} : ∀ {l cur : List UInt8}, c ∉ l → cutA c cur l = [cur ++ l]
  | [], cur, _ => by simp [cutA]
  | b :: l, cur, h => by
    rw [cutA, if_neg (fun e => h (by rw [e]; exact List.mem_cons_self)), cutA_no (fun k => h (List.mem_cons_of_mem _ k))]
    simp
theorem cutA_at {c : UInt8} : ∀ {x cur y : List UInt8}, c ∉ x → cutA c cur (x ++ c :: y) = (cur ++ x) :: cutA c [] y
  | [], cur, y, _ => by simp [cutA]
  | b :: x, cur, y, h => by
    rw [List.cons_append, cutA, if_neg (fun e => h (by rw [e]; exact List.mem_cons_self)), cutA_at (fun k => h (List.mem_cons_of_mem _ k))]
    simp
theorem cutA_len {c : UInt8} : ∀ {l cur : List UInt8}, (cutA c cur l).length ≤ l.length + 1
  | [], cur => by simp [cutA]
  | b :: l, cur => by
    rw [cutA]
    split
    · have := cutA_len (c := c) (l := l) (cur := [])
      simp only [List.length_cons]
      omega
    · have := cutA_len (c := c) (l := l) (cur := cur ++ [b])
      simp only [List.length_cons]
      omega
theorem cutA_piece {c : UInt8} : ∀ {l cur p : List UInt8}, p ∈ cutA c cur l → p.length ≤ cur.length + l.length
  | [], cur, p, h => by simp only [cutA, List.mem_singleton] at h; subst h; simp
  | b :: l, cur, p, h => by
    rw [cutA] at h
    split at h
    · rcases List.mem_cons.1 h with rfl | h
      · omega
      · have := cutA_piece h
        simp only [List.length_cons, List.length_nil] at this ⊢
        omega
    · have := cutA_piece h
      simp only [List.length_append, List.length_cons, List.length_nil] at this ⊢
      omega
theorem idx_no {c : UInt8} : ∀ {l : List UInt8}, c ∉ l → Lib.index l [c] = -1
  | [], _ => rfl
  | b :: l, h => by
    have h1 : ¬ c = b := fun e => h (by rw [e]; exact List.mem_cons_self)
    rw [Lib.index, idx_no (fun k => h (List.mem_cons_of_mem _ k))]
    simp [h1]
theorem idx_at {c : UInt8} : ∀ {x y : List UInt8}, c ∉ x → Lib.index (x ++ c :: y) [c] = x.length
  | [], y, _ => by simp [Lib.index]
  | b :: x, y, h => by
    have h1 : ¬ c = b := fun e => h (by rw [e]; exact List.mem_cons_self)
    have hp : [c].isPrefixOf (b :: (x ++ c :: y)) = false := by simp [List.isPrefixOf, h1]
    rw [List.cons_append, Lib.index, idx_at (fun k => h (List.mem_cons_of_mem _ k)), hp, if_neg (by simp), if_neg (by simp <;> omega)]
    simp
theorem splitK_cut {c : UInt8} : ∀ (n : Nat) (s : List UInt8), s.length ≤ n → Lib.splitK [c] 0 (Lib.count s [c]) s = cutA c [] s := by
  intro n
  induction n with
  | zero =>
    intro s hs
    have : s = [] := List.length_eq_zero_iff.1 (by omega)
    subst this
    rw [Lib.count_miss (idx_no (by simp))]
    simp [Lib.splitK, cutA]
  | succ n ih =>
    intro s hs
    by_cases hc : c ∈ s
    · obtain ⟨x, y, rfl, hx⟩ := List.eq_append_cons_of_mem hc
      have hi := idx_at (y := y) hx
      rw [Lib.count_hit (by simp) hi, Nat.add_comm, Lib.splitK, hi, if_neg (by simp <;> omega), cutA_at hx]
      simp only [Int.toNat_natCast, Nat.add_zero, List.length_cons, List.length_nil, List.nil_append, List.take_left]
      rw [show (x ++ c :: y).drop (x.length + (0 + 1)) = y by rw [show x.length + (0 + 1) = (x ++ [c]).length by simp, show x ++ c :: y = (x ++ [c]) ++ y by simp, List.drop_left], ih y (by simp only [List.length_append, List.length_cons] at hs; omega)]
    · rw [Lib.count_miss (idx_no hc), cutA_no hc]
      simp [Lib.splitK]
def strs (l : List (List UInt8)) : List ByteArray := l.map fun x => ⟨x.toArray⟩
theorem split_cut (c : UInt8) (s : ByteArray) : Lib.splitB ⟨#[c]⟩ 0 (Lib.countB s ⟨#[c]⟩) s = strs (cutA c [] s.data.toList) := by
  have h := Lib.splitB_data ⟨#[c]⟩ 0 (Lib.countB s ⟨#[c]⟩) s
  have h2 := splitK_cut (c := c) s.data.toList.length s.data.toList (Nat.le_refl _)
  unfold strs
  rw [← h2]
  have h3 : (Lib.splitB ⟨#[c]⟩ 0 (Lib.countB s ⟨#[c]⟩) s).map (·.data.toList) = Lib.splitK [c] 0 (Lib.count s.data.toList [c]) s.data.toList := h
  rw [← h3, List.map_map]
  symm
  rw [List.map_id''.{0}]
  intro x
  simp
def isDig (b : UInt8) : Bool := decide (48 ≤ b.toNat) && decide (b.toNat ≤ 57)
theorem isDig_iff {b : UInt8} : isDig b = true ↔ 48 ≤ b.toNat ∧ b.toNat ≤ 57 := by simp [isDig]
def valU (l : List UInt8) : Nat := l.foldl (fun n b => n * 10 + (b.toNat - 48)) 0
theorem valU_snoc (l : List UInt8) (b : UInt8) : valU (l ++ [b]) = valU l * 10 + (b.toNat - 48) := by simp [valU]
theorem valU_take {l : List UInt8} {k : Nat} {b : UInt8} (h : l[k]? = some b) : valU (l.take (k + 1)) = valU (l.take k) * 10 + (b.toNat - 48) := by rw [take_snoc h, valU_snoc]
def parseU (l : List UInt8) : Option Nat := if l.length ≤ 10 ∧ l.all isDig = true ∧ valU l ≤ 1000000000 ∧ Lib.decDigits (valU l) = l then some (valU l) else none
theorem ofNat_sub {b : UInt8} (h : isDig b = true) : UInt8.ofNat (48 + (b.toNat - 48)) = b := by
  have := isDig_iff.1 h
  rw [show 48 + (b.toNat - 48) = b.toNat by omega]
  simp
theorem dec_val : ∀ (n : Nat) (l : List UInt8), l.length = n → l.all isDig = true → l ≠ [] → (l.length = 1 ∨ l.head? ≠ some 48) → Lib.decDigits (valU l) = l ∧ (l.head? ≠ some 48 → 0 < valU l) := by
  intro n
  induction n with
  | zero => intro l h _ h2; exact absurd (List.length_eq_zero_iff.1 h) h2
  | succ n ih =>
    intro l hl hd hne hh
    rcases List.eq_nil_or_concat l with rfl | ⟨l', b, rfl⟩
    · exact absurd rfl hne
    · rw [List.concat_eq_append] at *
      rw [List.all_append, Bool.and_eq_true] at hd
      have hb : isDig b = true := by have := hd.2; simpa using this
      have hb2 := isDig_iff.1 hb
      rw [valU_snoc]
      by_cases h0 : l' = []
      · subst h0
        simp only [valU, List.foldl_nil, Nat.zero_mul, Nat.zero_add, List.nil_append]
        rw [dec_lo (by omega), ofNat_sub hb]
        refine ⟨rfl, fun hx => ?_⟩
        simp only [List.head?_cons, ne_eq, Option.some.injEq] at hx
        have : b.toNat ≠ 48 := fun e => hx (by apply UInt8.toNat_inj.1; simpa using e)
        omega
      · have hlen : l'.length ≠ 0 := fun e => h0 (List.length_eq_zero_iff.1 e)
        have hhd : (l' ++ [b]).head? = l'.head? := by cases l' with | nil => exact absurd rfl h0 | cons x xs => rfl
        rw [hhd] at hh ⊢
        have hx : l'.head? ≠ some 48 := by
          rcases hh with hh | hh
          · simp only [List.length_append, List.length_cons, List.length_nil] at hh
            omega
          · exact hh
        have k := ih l' (by simp only [List.length_append, List.length_cons, List.length_nil] at hl; omega) hd.1 h0 (.inr hx)
        have hp := k.2 hx
        rw [dec_hi (by omega), show (valU l' * 10 + (b.toNat - 48)) / 10 = valU l' by omega, show (valU l' * 10 + (b.toNat - 48)) % 10 = b.toNat - 48 by omega, k.1, ofNat_sub hb]
        exact ⟨rfl, fun _ => by omega⟩
theorem dec_head : ∀ (n : Nat), 0 < n → ∃ b r, Lib.decDigits n = b :: r ∧ b ≠ 48 := by
  intro n
  induction n using Nat.strongRecOn with
  | _ n ih =>
    intro hn
    by_cases h : n < 10
    · rw [dec_lo h]
      refine ⟨_, _, rfl, fun e => ?_⟩
      have := congrArg UInt8.toNat e
      simp only [UInt8.toNat_ofNat'] at this
      have h48 : (48 : UInt8).toNat = 48 := rfl
      omega
    · rw [dec_hi (by omega)]
      obtain ⟨b, r, e, hb⟩ := ih (n / 10) (by omega) (by omega)
      rw [e]
      exact ⟨b, r ++ _, rfl, hb⟩
theorem parseU_zero {l : List UInt8} (h : 1 < l.length) (h0 : l.head? = some 48) : parseU l = none := by
  unfold parseU
  rw [if_neg]
  rintro ⟨_, _, _, hd⟩
  by_cases hz : valU l = 0
  · rw [hz, dec_lo (by omega)] at hd
    rw [← hd] at h
    simp at h
  · obtain ⟨b, r, e, hb⟩ := dec_head (valU l) (by omega)
    rw [e] at hd
    rw [← hd] at h0
    simp only [List.head?_cons, Option.some.injEq] at h0
    exact hb h0
theorem parseU_nil : parseU [] = none := by
  unfold parseU
  rw [if_neg]
  rintro ⟨_, _, _, hd⟩
  have h0 : valU [] = 0 := rfl
  rw [h0, dec_lo (by omega)] at hd
  cases hd
theorem parseU_long {l : List UInt8} (h : 10 < l.length) : parseU l = none := by
  unfold parseU
  rw [if_neg (fun k => by omega)]
theorem parseU_big {l : List UInt8} (h : 1000000000 < valU l) : parseU l = none := by
  unfold parseU
  rw [if_neg (fun k => by omega)]
theorem parseU_dig {l : List UInt8} {k : Nat} {b : UInt8} (h : l[k]? = some b) (hb : isDig b = false) : parseU l = none := by
  unfold parseU
  rw [if_neg]
  rintro ⟨_, hd, _⟩
  have := List.all_eq_true.1 hd b (List.mem_of_getElem? h)
  rw [hb] at this
  cases this
theorem parseU_dec {l : List UInt8} (h : Lib.decDigits (valU l) ≠ l) : parseU l = none := by
  unfold parseU
  rw [if_neg (fun k => h k.2.2.2)]
theorem parseU_ok {l : List UInt8} (h1 : l.length ≤ 10) (h2 : l.all isDig = true) (h3 : valU l ≤ 1000000000) (h4 : Lib.decDigits (valU l) = l) : parseU l = some (valU l) := by
  unfold parseU
  rw [if_pos ⟨h1, h2, h3, h4⟩]
theorem parseU_ok2 {l : List UInt8} (h1 : l.length ≤ 10) (h2 : l.all isDig = true) (h3 : valU l ≤ 1000000000) (h4 : l ≠ []) (h5 : ¬ (1 < l.length ∧ l.head? = some 48)) : parseU l = some (valU l) := by
  refine parseU_ok h1 h2 h3 (dec_val _ l rfl h2 h4 ?_).1
  have : l.length ≠ 0 := fun e => h4 (List.length_eq_zero_iff.1 e)
  by_cases h : l.length = 1
  · exact .inl h
  · exact .inr (fun e => h5 ⟨by omega, e⟩)
theorem parseU_le {l : List UInt8} {n : Nat} (h : parseU l = some n) : n ≤ 1000000000 := by
  unfold parseU at h
  split at h
  · rename_i k
    simp only [Option.some.injEq] at h
    omega
  · cases h
theorem valU_lt : ∀ (n : Nat) (l : List UInt8), l.length = n → l.all isDig = true → valU l < 10 ^ n := by
  intro n
  induction n with
  | zero =>
    intro l h _
    have : l = [] := List.length_eq_zero_iff.1 h
    subst this
    decide
  | succ n ih =>
    intro l hl hd
    rcases List.eq_nil_or_concat l with rfl | ⟨l', b, rfl⟩
    · simp at hl
    · rw [List.concat_eq_append] at *
      rw [List.all_append, Bool.and_eq_true] at hd
      have hb : isDig b = true := by have := hd.2; simpa using this
      have hb2 := isDig_iff.1 hb
      have := ih l' (by simp only [List.length_append, List.length_cons, List.length_nil] at hl; omega) hd.1
      rw [valU_snoc, Nat.pow_succ]
      omega
theorem valU_lt10 {l : List UInt8} (h : l.length ≤ 10) (hd : l.all isDig = true) : valU l < 10000000000 := by
  have h1 := valU_lt _ l rfl hd
  have h2 : (10 : Nat) ^ l.length ≤ 10 ^ 10 := Nat.pow_le_pow_right (by omega) h
  have h3 : (10 : Nat) ^ 10 = 10000000000 := rfl
  omega
def parsePart (l : List UInt8) : Option DFrame := match cutA 58 [] l with
  | [a, b] => (parseU b).map fun (n : Nat) => (⟨⟨a.toArray⟩, (n : Int)⟩ : DFrame)
  | _ => none
theorem part_cut (l : List UInt8) : parsePart l = (parseU (Lib.cut l [58]).2.1).map fun (n : Nat) => (⟨⟨(Lib.cut l [58]).1.toArray⟩, (n : Int)⟩ : DFrame) := by
  by_cases hc : (58 : UInt8) ∈ l
  · obtain ⟨x, y, rfl, hx⟩ := List.eq_append_cons_of_mem hc
    have hi := idx_at (y := y) hx
    have e1 : (Lib.cut (x ++ 58 :: y) [58]).1 = x := by
      unfold Lib.cut
      rw [hi, if_pos (by omega)]
      simp
    have e2 : (Lib.cut (x ++ 58 :: y) [58]).2.1 = y := by
      unfold Lib.cut
      rw [hi, if_pos (by omega)]
      simp only [Int.toNat_natCast, List.length_cons, List.length_nil]
      rw [show x.length + (0 + 1) = (x ++ [58]).length by simp, show x ++ 58 :: y = (x ++ [58]) ++ y by simp, List.drop_left]
    rw [e1, e2]
    unfold parsePart
    rw [cutA_at hx, List.nil_append]
    by_cases hy : (58 : UInt8) ∈ y
    · obtain ⟨u, v, rfl, hu⟩ := List.eq_append_cons_of_mem hy
      have hn : parseU (u ++ 58 :: v) = none := parseU_dig (k := u.length) (b := 58) (by simp) (by decide)
      rw [cutA_at hu, hn]
      cases hv : cutA 58 [] v with
      | nil =>
        exfalso
        by_cases hv2 : (58 : UInt8) ∈ v
        · obtain ⟨s, t, rfl, hs⟩ := List.eq_append_cons_of_mem hv2
          rw [cutA_at hs] at hv
          cases hv
        · rw [cutA_no hv2] at hv
          cases hv
      | cons h t => rfl
    · rw [cutA_no hy]
      rfl
  · have hi := idx_no hc
    have e2 : (Lib.cut l [58]).2.1 = [] := by
      unfold Lib.cut
      rw [hi, if_neg (by omega)]
    rw [e2, parseU_nil]
    unfold parsePart
    rw [cutA_no hc]
    rfl
def parseL : List (List UInt8) → List DFrame → Option (List DFrame)
  | [], acc => some acc
  | p :: ps, acc => match parsePart p with
    | some f => parseL ps (acc ++ [f])
    | none => none
theorem parseL_some {p : List UInt8} {ps : List (List UInt8)} {acc : List DFrame} {f : DFrame} (h : parsePart p = some f) : parseL (p :: ps) acc = parseL ps (acc ++ [f]) := by rw [parseL, h]
theorem parseL_none {p : List UInt8} {ps : List (List UInt8)} {acc : List DFrame} (h : parsePart p = none) : parseL (p :: ps) acc = none := by rw [parseL, h]
def parseF (s : ByteArray) : Option (List DFrame) := match parseL (cutA 59 [] s.data.toList) [] with
  | some fs => if s.size = 0 ∨ fmtF fs ≠ s then none else some fs
  | none => none
theorem parseL_len : ∀ {ps : List (List UInt8)} {acc fs : List DFrame}, parseL ps acc = some fs → fs.length = acc.length + ps.length
  | [], acc, fs, h => by simp only [parseL, Option.some.injEq] at h; subst h; simp
  | p :: ps, acc, fs, h => by
    rw [parseL] at h
    split at h
    · have := parseL_len h
      simp only [List.length_append, List.length_cons, List.length_nil] at this ⊢
      omega
    · cases h
theorem parseF_fmt {s : ByteArray} {fs : List DFrame} (h : parseF s = some fs) : fmtF fs = s ∧ s.size ≠ 0 := by
  unfold parseF at h
  split at h
  · split at h
    · cases h
    · rename_i k
      simp only [Option.some.injEq] at h
      subst h
      exact ⟨Decidable.byContradiction fun e => k (.inr e), fun e => k (.inl e)⟩
  · cases h
theorem parseF_len {s : ByteArray} {fs : List DFrame} (h : parseF s = some fs) : fs.length ≤ s.size + 1 := by
  unfold parseF at h
  split at h
  · rename_i fs' hp
    split at h
    · cases h
    · simp only [Option.some.injEq] at h
      subst h
      have h1 := parseL_len hp
      have h2 := cutA_len (c := 59) (l := s.data.toList) (cur := [])
      rw [dlen] at h2
      simp only [List.length_nil] at h1
      omega
  · cases h
end Go.Proofs.YtcomafmiclkmhaaGreatDoor
namespace Go.Proofs.YtcomafmiclkmhaaGreatDoor
open Go.RowKit
theorem val_int {a b : Int} (h : a = b) : Value.int .i64 a = .int .i64 b := by rw [h]
theorem isDig_lo {b : UInt8} (h : (b.toNat : Int) < 48) : isDig b = false := by simp [isDig]; omega
theorem isDig_hi {b : UInt8} (h : 57 < (b.toNat : Int)) : isDig b = false := by simp [isDig]; omega
theorem isDig_yes {b : UInt8} (h1 : ¬ (b.toNat : Int) < 48) (h2 : ¬ 57 < (b.toNat : Int)) : isDig b = true := by simp [isDig]; omega
def parseUo (s : ByteArray) : Nat × Bool := match parseU s.data.toList with
  | some n => (n, true)
  | none => (0, false)
theorem parseUo_none {s : ByteArray} (h : parseU s.data.toList = none) : parseUo s = (0, false) := by unfold parseUo; rw [h]
theorem parseUo_some {s : ByteArray} {n : Nat} (h : parseU s.data.toList = some n) : parseUo s = (n, true) := by unfold parseUo; rw [h]
theorem head_get {s : ByteArray} (h : 0 < s.size) : s.data.toList.head? = some s[0] := by
  rw [List.head?_eq_getElem?, bytes_get s 0 h]
set_option maxRecDepth 100000 in
set_option maxHeartbeats 2000000 in
theorem parseU_i (s : ByteArray) (w : World) (hs : s.size ≤ 9223372036854775807) : Calls Tryz.prog 56 #[.string s] w fun e w' => e = .returned (.tuple #[.int .i64 (parseUo s).1, .bool (parseUo s).2]) ∧ Gro w w' := by
  by_cases hz : s.size = 0
  · have hb0 : ((s.size : Int) == 0) = true := by simp [hz]
    have HR := Lib.hid (parseUo_none (s := s) (by rw [show s.data.toList = [] from List.length_eq_zero_iff.1 (by rw [dlen]; exact hz)]; exact parseU_nil))
    go_enter Tryz.func56, Tryz.ntmps56
    go_wp2_with (fail)
    go_ret2
    rw [HR.out]
    exact ⟨rfl, (by repeat (first | with_reducible exact Gro.refl _ | with_reducible exact Gro.refl_drew _ _ _ | with_reducible exact Gro.refl_drewN _ _ _ _ | assumption | with_reducible apply Gro.more | with_reducible apply Gro.alloc | with_reducible apply Gro.drew | with_reducible apply Gro.drewN))⟩
  by_cases h10 : 10 < s.size
  · have hb0 : ((s.size : Int) == 0) = false := beq_eq_false_iff_ne.2 (by omega)
    have hb1 : decide (10 < (s.size : Int)) = true := decide_eq_true (by omega)
    have HR := Lib.hid (parseUo_none (s := s) (parseU_long (by rw [dlen]; exact h10)))
    go_enter Tryz.func56, Tryz.ntmps56
    go_wp2_with (fail)
    go_ret2
    rw [HR.out]
    exact ⟨rfl, (by repeat (first | with_reducible exact Gro.refl _ | with_reducible exact Gro.refl_drew _ _ _ | with_reducible exact Gro.refl_drewN _ _ _ _ | assumption | with_reducible apply Gro.more | with_reducible apply Gro.alloc | with_reducible apply Gro.drew | with_reducible apply Gro.drewN))⟩
  have hpos : 0 < s.size := by omega
  have hb0 : ((s.size : Int) == 0) = false := beq_eq_false_iff_ne.2 (by omega)
  have hb1 : decide (10 < (s.size : Int)) = false := by simp; omega
  have HHD := Lib.hid (head_get hpos)
  by_cases hlead : 1 < s.size ∧ s[0] = 48
  · have hb2 : decide (1 < (s.size : Int)) = true := by simp; omega
    have hb3 : ((s[0].toNat : Int) == 48) = true := by rw [hlead.2]; rfl
    have HR := Lib.hid (parseUo_none (s := s) (parseU_zero (by rw [dlen]; omega) (by rw [HHD.out, hlead.2])))
    have h1 := hlead.1
    clear hlead
    go_enter Tryz.func56, Tryz.ntmps56
    go_wp2_with (fail)
    go_ret2
    rw [HR.out]
    exact ⟨rfl, (by repeat (first | with_reducible exact Gro.refl _ | with_reducible exact Gro.refl_drew _ _ _ | with_reducible exact Gro.refl_drewN _ _ _ _ | assumption | with_reducible apply Gro.more | with_reducible apply Gro.alloc | with_reducible apply Gro.drew | with_reducible apply Gro.drewN))⟩
  · have HL := Lib.hid (show ¬ (1 < s.data.toList.length ∧ s.data.toList.head? = some 48) from by
      rw [dlen, HHD.out]
      rintro ⟨a, b⟩
      simp only [Option.some.injEq] at b
      exact hlead ⟨a, b⟩)
    have HB := Lib.hid (show decide (1 < (s.size : Int)) = false ∨ decide (1 < (s.size : Int)) = true ∧ ((s[0].toNat : Int) == 48) = false from by
      by_cases h1 : 1 < s.size
      · right
        refine ⟨by simp; omega, ?_⟩
        simp only [beq_eq_false_iff_ne, ne_eq]
        intro e
        exact hlead ⟨h1, by apply UInt8.toNat_inj.1; have : (48 : UInt8).toNat = 48 := rfl; omega⟩
      · left
        simp
        omega)
    clear hlead
    rcases HB.out with hb2 | ⟨hb2, hb3⟩
    all_goals
      clear HB
      go_enter Tryz.func56, Tryz.ntmps56
      go_wp2_with (fail)
      go_loop [4, 5] (fun a i => ∃ k : Nat, k ≤ s.size ∧ i = .int .i64 k ∧ a = .int .i64 (valU (s.data.toList.take k)) ∧ Hid ((s.data.toList.take k).all isDig = true)) (fun _ i => s.size - (intOf i).toNat)
      case atStart => exact ⟨0, Nat.zero_le _, rfl, by simp [valU], Lib.hid (by simp)⟩
      case round =>
        obtain ⟨k, hk, rfl, rfl, ha⟩ := hrel
        by_cases hlt : k < s.size
        · have HX := Lib.hid (bytes_get s k hlt)
          have HV := Lib.hid (valU_take HX.out)
          have hv := valU_lt10 (l := s.data.toList.take k) (by simp; omega) ha.out
          have hb256 : s[k].toNat < 256 := UInt8.toNat_lt _
          generalize hvv : valU (s.data.toList.take k) = v at HV hv ⊢
          clear hvv
          by_cases h1 : (s[k].toNat : Int) < 48
          · have HR := Lib.hid (parseUo_none (s := s) (parseU_dig HX.out (isDig_lo h1)))
            go_wp2
            go_ret2
            rw [HR.out]
            exact ⟨rfl, (by repeat (first | with_reducible exact Gro.refl _ | with_reducible exact Gro.refl_drew _ _ _ | with_reducible exact Gro.refl_drewN _ _ _ _ | assumption | with_reducible apply Gro.more | with_reducible apply Gro.alloc | with_reducible apply Gro.drew | with_reducible apply Gro.drewN))⟩
          · by_cases h2 : 57 < (s[k].toNat : Int)
            · have HR := Lib.hid (parseUo_none (s := s) (parseU_dig HX.out (isDig_hi h2)))
              go_wp2
              go_ret2
              rw [HR.out]
              exact ⟨rfl, (by repeat (first | with_reducible exact Gro.refl _ | with_reducible exact Gro.refl_drew _ _ _ | with_reducible exact Gro.refl_drewN _ _ _ _ | assumption | with_reducible apply Gro.more | with_reducible apply Gro.alloc | with_reducible apply Gro.drew | with_reducible apply Gro.drewN))⟩
            · go_wp2
              go_round
              case rel => exact ⟨k + 1, by omega, by go_num, val_int (by rw [HV.out]; omega), Lib.hid (all_snoc HX.out ha.out (isDig_yes h1 h2))⟩
              case measure => simp [intOf]; omega
        · have hje : k = s.size := by omega
          subst hje
          have HA := Lib.hid (show s.data.toList.take s.size = s.data.toList from by rw [← dlen, List.take_length])
          have ha2 := ha.out
          rw [HA.out] at ha2 ⊢
          have hv := valU_lt10 (l := s.data.toList) (by rw [dlen]; omega) ha2
          have HE := Lib.hid (fun (h : valU s.data.toList ≤ 1000000000) => parseUo_some (parseU_ok2 (by rw [dlen]; omega) ha2 h (by intro e; have h9 := dlen s; rw [e] at h9; have h8 : ([] : List UInt8).length = 0 := rfl; omega) HL.out))
          have HB := Lib.hid (fun (h : 1000000000 < valU s.data.toList) => parseUo_none (parseU_big h))
          clear ha2 ha
          generalize valU s.data.toList = v at HE HB hv ⊢
          by_cases hb : 1000000000 < v
          · have HR := Lib.hid (HB.out hb)
            go_wp2
            go_ret2
            rw [HR.out]
            exact ⟨rfl, (by repeat (first | with_reducible exact Gro.refl _ | with_reducible exact Gro.refl_drew _ _ _ | with_reducible exact Gro.refl_drewN _ _ _ _ | assumption | with_reducible apply Gro.more | with_reducible apply Gro.alloc | with_reducible apply Gro.drew | with_reducible apply Gro.drewN))⟩
          · have HR := Lib.hid (HE.out (by omega))
            go_wp2
            go_ret2
            rw [HR.out]
            exact ⟨rfl, (by repeat (first | with_reducible exact Gro.refl _ | with_reducible exact Gro.refl_drew _ _ _ | with_reducible exact Gro.refl_drewN _ _ _ _ | assumption | with_reducible apply Gro.more | with_reducible apply Gro.alloc | with_reducible apply Gro.drew | with_reducible apply Gro.drewN))⟩
theorem cut_next {l : List UInt8} {st k : Nat} {b c : UInt8} (h : l[k]? = some b) (hst : st ≤ k) : cutA c ((l.drop st).take (k - st)) (l.drop k) = if b = c then (l.drop st).take (k - st) :: cutA c ((l.drop (k + 1)).take (k + 1 - (k + 1))) (l.drop (k + 1)) else cutA c ((l.drop st).take (k + 1 - st)) (l.drop (k + 1)) := by
  obtain ⟨hl, rfl⟩ := List.getElem?_eq_some_iff.1 h
  rw [List.drop_eq_getElem_cons hl, cutA]
  congr 1
  · simp
  · congr 1
    rw [show k + 1 - st = (k - st) + 1 by omega, List.take_succ_eq_append_getElem (by simp; omega)]
    congr 2
    rw [List.getElem_drop]
    congr 1
    omega
theorem ext_str (s : ByteArray) (a b : Nat) : s.extract a b = ⟨((s.data.toList.drop a).take (b - a)).toArray⟩ := by
  have := Lib.extract_data s a b
  rw [← this]
end Go.Proofs.YtcomafmiclkmhaaGreatDoor
namespace Go.Proofs.YtcomafmiclkmhaaGreatDoor
open Go.RowKit
section
variable {α : Type} {T : Ty α} {e : TypeId} {P : Program} {t : TypeId} {bytes : Nat} {ops : Array Oper} {rest : List Oper} {o : Oper} {a : Act} {Q : Exit → Act → World → Prop} {K : Act → World → Prop}
theorem run_append_cap0n (hE : Elem P t e T bytes) (hf : Flat T) {ty : TypeId} {W : World} {g : Nat} (_hg0 : W.heap[g]? = some (.cells #[] e (0, 0)))
    {B : Nat} {e' : TypeId} {A2 : Option Addr} {m c2 : Nat} {ys : List α} (hy : (T.sl e').R W B [.slice A2 m c2] ys) (hb : m * bytes ≤ 140737488355328) (h63 : m ≤ 9223372036854775807) (h00 : 0 < m) :
    ∃ A' c'' os d, (Builtin.append_ #[t, t] ty #[.slice (some ⟨g, 0, none⟩) 0 0, .slice A2 m c2]).run P W = .ok (.slice A' m c'') (gro W os d) ∧ Fresh (T.sl e) W (gro W os d) [.slice A' m c''] ys := by
  obtain ⟨A2', c2', h1, h2, h3, h4, h5⟩ := id hy
  simp only [List.cons.injEq, Value.slice.injEq, and_true] at h1
  obtain ⟨rfl, rfl, rfl⟩ := h1
  obtain ⟨i, z, hi, hz, hz1, hz2, hz3⟩ := hE.info
  obtain ⟨g2, off, rfl, hgB, h6⟩ := h5 h00
  obtain ⟨cs, hrows, hlen, hcell⟩ := rows_of_flat (T := T) hf (w := W) (w' := W) (B := B) (g := g2) (off := off) ys 0 (fun i x hx => by
    obtain ⟨ec, h7, h8⟩ := h6 i x hx
    exact ⟨ec, h7, fun j u hu => by rw [Nat.zero_add]; exact h8 j u hu⟩)
  have hsrc : Src P i.size t (.slice (some ⟨g2, off, none⟩) ys.length c2) ys.length cs W := Src.ofSlice W hE.ht _ _ _ cs (by rw [hlen, hz1]) (fun j u hu => by
    have := hcell j u hu
    rw [Addr.add_lit, show off + j = off + 0 * T.size + j from by omega]
    exact this) (Rows.one hrows)
  have hr := run_append_grow_src (P := P) W t t ty e i z hE.ht hi hz (some ⟨g, 0, none⟩) 0 0 [] (run_firstCells_some W.drew i.size 0 _ 0 0 [] (by simp) (fun j u hu => by simp at hu)) (.slice (some ⟨g2, off, none⟩) ys.length c2) ys.length cs hsrc (by omega) (by omega) (growslice_fits (by omega) (by rw [hz2, Nat.zero_add]; exact hb))
  simp only [Nat.zero_add, List.nil_append] at hr
  have hge := grownCap_ge W ys.length 0 e
  have hle := grownCap_le_maxLen W ys.length 0 e
  generalize grownCap W ys.length 0 e = c' at hr hge hle
  by_cases hm : ys.length ≤ maxLen
  case neg =>
    exfalso
    unfold maxLen at hm
    omega
  have hle' := hle hm
  generalize hcur : (cs.toArray ++ Builtin.zeroCells z.cells (c' - ys.length)) = cur at hr
  have hW2 : W.drew.alloc (.cells cur e) = gro W #[.cells cur e] (W.drawn + 1) := by
    unfold gro World.alloc World.drew
    simp
  refine ⟨some ⟨W.heap.size, 0, none⟩, c', _, _, by rw [hr, hW2], [W.heap.size], ?_, by simp, fun b hb => by simp at hb; omega⟩
  rw [← hW2]
  refine ⟨_, c', cs, [], rfl, ⟨by rw [hlen], .inr ⟨W.heap.size, c', cur, rfl, Nat.zero_le _, heap_alloc_new W.drew _, hge, hle', ?_, ?_⟩⟩, Rows.keep hrows (fun k hk => by cases hk), rfl⟩
  · rw [← hcur, Array.size_append, size_zeroCells, hz3]
    simp only [List.size_toArray, hlen]
    rw [← Nat.add_mul]
    congr 1
    omega
  · rw [← hcur, Array.toList_append, List.take_append_of_le_length (by simp [hlen])]
    rw [List.take_of_length_le (by simp [hlen])]
/-- an empty list at the block g, or a list of the call's own since W0 -/
def EmpFr (T : Ty α) (e : TypeId) (W0 : World) (g : Nat) (W : World) (A : Option Addr) (n c : Nat) (xs : List α) : Prop :=
  (xs = [] ∧ n = 0 ∧ A = some ⟨g, 0, none⟩ ∧ c = 0 ∧ W.heap[g]? = some (.cells #[] e (0, 0))) ∨ Fresh (T.sl e) W0 W [.slice A n c] xs
theorem EmpFr.gro {W0 W W' : World} {g : Nat} {A : Option Addr} {n c : Nat} {xs : List α} (h : EmpFr T e W0 g W A n c xs) (hg : Gro W W') : EmpFr T e W0 g W' A n c xs := by
  rcases h with ⟨h1, h2, h3, h4, h5⟩ | h
  · refine .inl ⟨h1, h2, h3, h4, ?_⟩
    rw [hg.block (Array.getElem?_eq_some_iff.1 h5).1]
    exact h5
  · exact .inr (h.gro hg)
theorem EmpFr.start {W0 X W : World} {g : Nat} (hg : Gro (X.alloc (.cells #[] e)) W) (hgX : g = X.heap.size) : EmpFr T e W0 g W (some ⟨g, 0, none⟩) 0 0 [] := by
  subst hgX
  exact .inl ⟨rfl, rfl, rfl, rfl, by rw [hg.block (by simp)]; exact heap_alloc_new X _⟩
/-- of the call's own since an elder world -/
theorem EmpFr.fresh {w W0 W : World} {g : Nat} {A : Option Addr} {n c : Nat} {xs : List α} (h : EmpFr T e W0 g W A n c xs) (h1 : w.heap.size ≤ g) (h2 : w.heap.size ≤ W0.heap.size) : Fresh (T.sl e) w W [.slice A n c] xs := by
  rcases h with ⟨rfl, rfl, rfl, rfl, h5⟩ | h
  · refine ⟨[g], ?_, by simp, fun b hb => by simp at hb; omega⟩
    exact own_made (xs := ([] : List α)) h5 (show Rows T W (#[] : Array Value).toList [] [] from ⟨rfl, rfl⟩) (by simp)
  · exact h.since h2
theorem run_append_eone (hE : Elem P t e T bytes) (hf : Flat T) {ty : TypeId} {W0 W W1 : World} {g B g2 : Nat} {A : Option Addr} {n c : Nat} {xs : List α} (h : EmpFr T e W0 g W A n c xs) (hg : Gro W0 W)
    {ec : List Value} {y : α} (hy : T.R W1 B ec y) (hg2 : g2 < W.heap.size) (hcell : ∀ (j : Nat) (u : Value), ec[j]? = some u → W.cell? ⟨g2, j, none⟩ = some u)
    {L : Nat} (hL : L = n + 1) (hb : L * bytes ≤ 140737488355328) (h63 : L ≤ 9223372036854775807) :
    ∃ A' c'' os d, (Builtin.append_ #[t, t] ty #[.slice A n c, .slice (some ⟨g2, 0, none⟩) 1 1]).run P W = .ok (.slice A' L c'') (Go.Proofs.YtcomafmiclkmhaaGreatDoor.gro W0 os d) ∧ Fresh (T.sl e) W0 (Go.Proofs.YtcomafmiclkmhaaGreatDoor.gro W0 os d) [.slice A' L c''] (xs ++ [y]) := by
  rcases h with ⟨rfl, rfl, rfl, rfl, h5⟩ | h
  · subst hL
    have hy2 : (T.sl e).R W W.heap.size [.slice (some ⟨g2, 0, none⟩) 1 1] [y] := by
      refine ⟨some ⟨g2, 0, none⟩, 1, rfl, by simp, by omega, by simp, fun _ => ⟨g2, 0, rfl, hg2, fun i x hx => ?_⟩⟩
      cases i with
      | zero =>
        simp only [List.getElem?_cons_zero, Option.some.injEq] at hx
        subst hx
        exact ⟨ec, (fresh_flat hf (We := W) (W := W) hy).read, fun j u hu => by simpa using hcell j u hu⟩
      | succ i => simp at hx
    obtain ⟨A', c'', os, d, hrun, hF⟩ := run_append_cap0n (P := P) (ty := ty) hE hf h5 hy2 (by simpa using hb) (by omega) (by omega)
    obtain ⟨os0, d0, rfl⟩ := hg
    rw [gro_gro] at hrun hF
    exact ⟨A', c'', _, _, hrun, hF.since (by simp)⟩
  · obtain ⟨A', c'', W', hrun, ⟨row, hgr, hrow⟩, hF⟩ := run_append_one (P := P) (ty := ty) (We := W) (m0 := W.heap.size) hE (Nat.le_refl _) (Nat.le_refl _) h.fre (fresh_flat hf hy) (Nat.le_refl _) hg.size hcell hL hb h63
    obtain ⟨os, d, rfl⟩ := hg.grown hgr (fun k hk => (hrow k hk).1)
    exact ⟨A', c'', os, d, hrun, hF.fresh hg.size⟩
theorem step_append_eone {E : Prop} (hgd : o.guard = none) (s x : Operand) (hE : Elem P t e T bytes) (hf : Flat T) {W0 W W1 : World} {g B g2 : Nat} {A : Option Addr} {n c : Nat} {xs : List α} (h : EmpFr T e W0 g W A n c xs) (hg : Gro W0 W)
    {ec : List Value} {y : α} (hy : T.R W1 B ec y)
    (ho : o.op = .call { callee := .builtin .append, args := #[s, x], argTypes := #[t, t] }) (hs : a.eval s = .slice A n c) (hx : a.eval x = .slice (some ⟨g2, 0, none⟩) 1 1)
    (hg2 : g2 < W.heap.size) (hcell : ∀ (j : Nat) (u : Value), ec[j]? = some u → W.cell? ⟨g2, j, none⟩ = some u)
    {L : Nat} (hL : L = n + 1) (hb : L * bytes ≤ 140737488355328) (h63 : L ≤ 9223372036854775807)
    (hK : ∀ A' c'' os d, Fresh (T.sl e) W0 (Go.Proofs.YtcomafmiclkmhaaGreatDoor.gro W0 os d) [.slice A' L c''] (xs ++ [y]) → K (a.put o.dst (.slice A' L c'')) (Go.Proofs.YtcomafmiclkmhaaGreatDoor.gro W0 os d)) : if Region.wanted o (yielded ops a.tmps) = true then Oper.wp P o a W K Q else E := by
  have hw : Region.wanted o (yielded ops a.tmps) = true := by simp [Region.wanted, hgd]
  rw [if_pos hw]
  obtain ⟨A', c'', os, d, hrun, hF⟩ := run_append_eone (P := P) (ty := o.type) hE hf h hg hy hg2 hcell hL hb h63
  exact wp_of_run_append s x ho hs hx hrun (hK A' c'' os d hF)
/-- .. in the walk -/
theorem wpList_append_eone (hgd : o.guard = none) (s x : Operand) (hE : Elem P t e T bytes) (hf : Flat T) {W0 W W1 : World} {g B g2 : Nat} {A : Option Addr} {n c : Nat} {xs : List α} (h : EmpFr T e W0 g W A n c xs) (hg : Gro W0 W)
    {ec : List Value} {y : α} (hy : T.R W1 B ec y)
    (ho : o.op = .call { callee := .builtin .append, args := #[s, x], argTypes := #[t, t] }) (hs : a.eval s = .slice A n c) (hx : a.eval x = .slice (some ⟨g2, 0, none⟩) 1 1)
    (hg2 : g2 < W.heap.size) (hcell : ∀ (j : Nat) (u : Value), ec[j]? = some u → W.cell? ⟨g2, j, none⟩ = some u)
    {L : Nat} (hL : L = n + 1) (hb : L * bytes ≤ 140737488355328) (h63 : L ≤ 9223372036854775807)
    (hK : ∀ A' c'' os d, Fresh (T.sl e) W0 (Go.Proofs.YtcomafmiclkmhaaGreatDoor.gro W0 os d) [.slice A' L c''] (xs ++ [y]) → wpList P ops Q rest (a.put o.dst (.slice A' L c'')) (Go.Proofs.YtcomafmiclkmhaaGreatDoor.gro W0 os d)) : wpList P ops Q (o :: rest) a W :=
  wpList_plain hgd fun K hKK => by
    obtain ⟨A', c'', os, d, hrun, hF⟩ := run_append_eone (P := P) (ty := o.type) hE hf h hg hy hg2 hcell hL hb h63
    exact wp_of_run_append s x ho hs hx hrun (hKK _ _ (hK A' c'' os d hF))
end
end Go.Proofs.YtcomafmiclkmhaaGreatDoor
namespace Go.Proofs.YtcomafmiclkmhaaGreatDoor
open Go.RowKit
theorem part_not {l : List UInt8} (h : (cutA 58 [] l).length ≠ 2) : parsePart l = none := by
  unfold parsePart
  split
  · rename_i e; rw [e] at h; exact absurd rfl h
  · rfl
theorem part_two {l a b : List UInt8} (h : cutA 58 [] l = [a, b]) : parsePart l = (parseU b).map fun (n : Nat) => (⟨⟨a.toArray⟩, (n : Int)⟩ : DFrame) := by
  unfold parsePart
  rw [h]
def parseR (s : ByteArray) : List DFrame × Bool := match parseF s with
  | some fs => (fs, true)
  | none => ([], false)
theorem parseR_bad {s : ByteArray} (h : parseL (cutA 59 [] s.data.toList) [] = none) : parseR s = ([], false) := by
  unfold parseR parseF
  rw [h]
theorem parseR_no {s : ByteArray} {fs : List DFrame} (h : parseL (cutA 59 [] s.data.toList) [] = some fs) (h2 : s.size = 0 ∨ fmtF fs ≠ s) : parseR s = ([], false) := by
  unfold parseR parseF
  rw [h]
  simp only
  rw [if_pos h2]
theorem parseR_yes {s : ByteArray} {fs : List DFrame} (h : parseL (cutA 59 [] s.data.toList) [] = some fs) (h1 : s.size ≠ 0) (h2 : fmtF fs = s) : parseR s = (fs, true) := by
  unfold parseR parseF
  rw [h]
  simp only
  rw [if_neg (fun k => k.elim h1 (fun k => k h2))]
theorem parseR_len (s : ByteArray) : (parseR s).1.length ≤ s.size + 1 := by
  unfold parseR
  split
  · rename_i h
    exact parseF_len h
  · simp
theorem strs_len (l : List (List UInt8)) : (strs l).length = l.length := by simp [strs]
theorem strs_get {l : List (List UInt8)} {j : Nat} {x : ByteArray} (h : (strs l)[j]? = some x) : l[j]? = some x.data.toList := by
  unfold strs at h
  rw [List.getElem?_map] at h
  cases hl : l[j]? with
  | none => rw [hl] at h; cases h
  | some y =>
    rw [hl] at h
    simp only [Option.map_some, Option.some.injEq] at h
    subst h
    simp
theorem drop_atM {α : Type} {l : List α} {j : Nat} {x : α} (h : l[j]? = some x) : l.drop j = x :: l.drop (j + 1) := by
  obtain ⟨hl, rfl⟩ := List.getElem?_eq_some_iff.1 h
  exact List.drop_eq_getElem_cons hl
theorem two_at {e : TypeId} {w : World} {B : Nat} {A : Option Addr} {n c : Nat} {a b : ByteArray} (h : (strT.sl e).R w B [.slice A n c] [a, b]) :
    ∃ g off, A = some ⟨g, off, none⟩ ∧ w.cell? ⟨g, off, none⟩ = some (.string a) ∧ w.cell? ⟨g, off + 1, none⟩ = some (.string b) ∧ a.size ≤ 9223372036854775807 ∧ b.size ≤ 9223372036854775807 := by
  obtain ⟨g, off, x, rfl, hx, h0, b0⟩ := strs_at h (k := 0) (by simp)
  obtain ⟨g', off', y, hA, hy, h1, b1⟩ := strs_at h (k := 1) (by simp)
  simp only [Option.some.injEq, Addr.mk.injEq, and_true] at hA
  obtain ⟨rfl, rfl⟩ := hA
  simp only [List.getElem?_cons_zero, Option.some.injEq] at hx
  simp only [List.getElem?_cons_succ, List.getElem?_cons_zero, Option.some.injEq] at hy
  subst hx hy
  exact ⟨g, off, rfl, by simpa using h0, h1, b0, b1⟩
theorem two_strs {l : List (List UInt8)} {a b : ByteArray} (h : strs l = [a, b]) : l = [a.data.toList, b.data.toList] := by
  match l, h with
  | [], h => cases h
  | [_], h => cases h
  | [x, y], h =>
    simp only [strs, List.map_cons, List.map_nil, List.cons.injEq, and_true] at h
    obtain ⟨rfl, rfl⟩ := h
    simp
  | _ :: _ :: _ :: _, h => cases h
theorem emp_yes {s : ByteArray} (h : s.size = 0) : s.toList.isEmpty = true := by
  rw [ByteArray.toList_eq, List.isEmpty_iff]
  exact List.length_eq_zero_iff.1 (by rw [dlen]; exact h)
theorem emp_no {s : ByteArray} (h : ¬ s.size = 0) : s.toList.isEmpty = false := by
  rw [ByteArray.toList_eq, ← Bool.not_eq_true, List.isEmpty_iff]
  intro e
  have := dlen s
  rw [e] at this
  simp at this
  omega
def RetParse (x : List DFrame × Bool) (w : World) (r : Ending) (w' : World) : Prop := ∃ A c, r = .returned (.tuple #[.slice A x.1.length c, .bool x.2]) ∧ Fresh (tFrame.sl 46) w w' [.slice A x.1.length c] x.1 ∧ Gro w w'
end Go.Proofs.YtcomafmiclkmhaaGreatDoor
namespace Go.Proofs.YtcomafmiclkmhaaGreatDoor
open Go.RowKit
theorem rows_of_strs {w : World} : ∀ {xs : List ByteArray}, (∀ x ∈ xs, x.size ≤ 9223372036854775807) → Rows strT w (xs.map Value.string) xs []
  | [], _ => ⟨rfl, rfl⟩
  | x :: xs, h => ⟨[.string x], xs.map Value.string, [], [], rfl, rfl, ⟨rfl, h x List.mem_cons_self, rfl⟩, rows_of_strs (fun y hy => h y (List.mem_cons_of_mem _ hy))⟩
theorem Gro.cell {a b : World} (h : Gro a b) {p : Addr} {v : Value} (hp : a.cell? p = some v) : b.cell? p = some v := by
  obtain ⟨os, d, rfl⟩ := h
  exact gro_keeps hp os d
theorem split59_i (s : ByteArray) {m : Int} {w : World} (hs : s.size ≤ 1073741824) (hm : w.cell? ⟨0, 0, none⟩ = some (.int .i64 m)) :
    Calls Tryz.prog 54 #[.string s, .string ⟨#[59]⟩] w (RetSl strT 9 (strs (cutA 59 [] s.data.toList)) w) := by
  have hl := Lib.splitB_all (⟨#[59]⟩ : ByteArray) (show 1 ≤ (1 : Nat) from Nat.le_refl _) 0 _ s rfl
  refine (Tryz.strings_Split s ⟨#[59]⟩ m w (by omega) hm (show 1 ≤ (1 : Nat) from Nat.le_refl _)).mono ?_
  rintro e w' ⟨rfl, rfl⟩
  rw [← hl, split_cut]
  have hc := cutA_len (c := 59) (l := s.data.toList) (cur := [])
  rw [dlen] at hc
  refine ⟨_, _, rfl, ⟨[w.heap.size], ?_, by simp, fun b hb => by simp at hb; omega⟩, (by repeat (first | with_reducible exact Gro.refl _ | with_reducible exact Gro.refl_drew _ _ _ | with_reducible exact Gro.refl_drewN _ _ _ _ | assumption | with_reducible apply Gro.more | with_reducible apply Gro.alloc | with_reducible apply Gro.drew | with_reducible apply Gro.drewN))⟩
  refine own_made (heap_alloc_new w _) (rows_of_strs fun x hx => ?_) (by rw [strs_len]; omega)
  obtain ⟨l, hl, rfl⟩ := List.mem_map.1 hx
  have := cutA_piece hl
  rw [dlen] at this
  rw [szl]
  simp only [List.length_nil] at this
  omega
theorem cut58_i (s : ByteArray) {m : Int} {w : World} (hs : s.size ≤ 1073741824) (hm : w.cell? ⟨0, 0, none⟩ = some (.int .i64 m)) :
    Calls Tryz.prog 55 #[.string s, .string ⟨#[58]⟩] w fun e w' => (∃ a b c, Hid (a.data.toList = (Lib.cut s.data.toList [58]).1 ∧ b.data.toList = (Lib.cut s.data.toList [58]).2.1) ∧ a.size ≤ s.size ∧ b.size ≤ s.size ∧ e = .returned (.tuple #[.string a, .string b, .bool c])) ∧ Gro w w' := by
  refine (Tryz.strings_Cut s ⟨#[58]⟩ m w (by omega) hm).mono ?_
  rintro e w' ⟨rfl, n, rfl⟩
  have h1 : (Lib.cut s.data.toList [58]).1.length ≤ s.size := by
    rw [← dlen]; unfold Lib.cut; split <;> simp <;> omega
  have h2 : (Lib.cut s.data.toList [58]).2.1.length ≤ s.size := by
    rw [← dlen]; unfold Lib.cut; split <;> simp <;> omega
  exact ⟨⟨_, _, _, Lib.hid ⟨rfl, rfl⟩, by rw [szl]; exact h1, by rw [szl]; exact h2, rfl⟩, (by repeat (first | with_reducible exact Gro.refl _ | with_reducible exact Gro.refl_drew _ _ _ | with_reducible exact Gro.refl_drewN _ _ _ _ | assumption | with_reducible apply Gro.more | with_reducible apply Gro.alloc | with_reducible apply Gro.drew | with_reducible apply Gro.drewN))⟩
set_option maxRecDepth 100000 in
set_option maxHeartbeats 4000000 in
theorem parseF_i (s : ByteArray) {m : Int} {w : World} (hs : s.size ≤ 1073741824) (hm : w.cell? ⟨0, 0, none⟩ = some (.int .i64 m)) : Calls Tryz.prog 37 #[.string s] w (RetParse (parseR s) w) := by
  have HM := Lib.hid hm
  clear hm
  go_enter Tryz.func37, Tryz.ntmps37
  go_wp2_with (go_at_call 54; go_must ((with_reducible refine (split59_i s (by omega) (Gro.cell (by repeat (first | with_reducible exact Gro.refl _ | with_reducible exact Gro.refl_drew _ _ _ | with_reducible exact Gro.refl_drewN _ _ _ _ | assumption | with_reducible apply Gro.more | with_reducible apply Gro.alloc | with_reducible apply Gro.drew | with_reducible apply Gro.drewN)) HM.out)).mono ?_)); rintro e w1 ⟨A1, c1, rfl, hF1, os1, d1, rfl⟩)
  obtain ⟨Q, hQ⟩ : ∃ Q, strs (cutA 59 [] s.data.toList) = Q := ⟨_, rfl⟩
  have hQl : Q.length ≤ s.size + 1 := by rw [← hQ, strs_len]; have := cutA_len (c := 59) (l := s.data.toList) (cur := []); rw [dlen] at this; exact this
  have HQ := Lib.hid hQ
  rw [hQ] at hF1 ⊢
  clear hQ
  obtain ⟨_, _, hv, hcc, hcm⟩ := sl_at hF1.read
  injection hv with hA' _ hc'
  subst hA' hc'
  have HF1 := Lib.hid hF1
  clear hF1
  go_loopw [4, 16] (fun a b wr => ∃ (j : Nat) (acc : List DFrame) (A : Option Addr) (c : Nat), a = .slice A acc.length c ∧ b = .int .i64 j ∧ j ≤ Q.length ∧ acc.length ≤ j ∧ Hid (parseL ((cutA 59 [] s.data.toList).drop j) acc = parseL (cutA 59 [] s.data.toList) []) ∧ Hid (Gro (gro (w.alloc (.cells #[] 46)) os1 d1) wr) ∧ Hid (EmpFr tFrame 46 (gro (w.alloc (.cells #[] 46)) os1 d1) w.heap.size wr A acc.length c acc)) (fun _ b _ => Q.length - (intOf b).toNat)
  case atStart => exact ⟨0, [], _, 0, rfl, rfl, by omega, by simp, Lib.hid (by simp), Lib.hid (by repeat (first | with_reducible exact Gro.refl _ | with_reducible exact Gro.refl_drew _ _ _ | with_reducible exact Gro.refl_drewN _ _ _ _ | assumption | with_reducible apply Gro.more | with_reducible apply Gro.alloc | with_reducible apply Gro.drew | with_reducible apply Gro.drewN)), Lib.hid (EmpFr.start (by repeat (first | with_reducible exact Gro.refl _ | with_reducible exact Gro.refl_drew _ _ _ | with_reducible exact Gro.refl_drewN _ _ _ _ | assumption | with_reducible apply Gro.more | with_reducible apply Gro.alloc | with_reducible apply Gro.drew | with_reducible apply Gro.drewN)) (by simp))⟩
  case round =>
    obtain ⟨j, acc, A, c, rfl, rfl, hj, hacc, HT, hG, hF⟩ := hrel
    obtain ⟨os, d, rfl⟩ := hG.out
    clear hG
    by_cases hlt : j < Q.length
    · obtain ⟨g, off, x, rfl, hxk, hcx, bx⟩ := strs_at HF1.out.read hlt
      have HX := Lib.hid (strs_get (l := cutA 59 [] s.data.toList) (by rw [HQ.out]; exact hxk))
      have hxs : x.size ≤ 1073741824 := by
        have h1 := cutA_piece (List.mem_of_getElem? HX.out)
        rw [dlen, dlen] at h1
        simp only [List.length_nil] at h1
        omega
      have HD := Lib.hid (drop_atM HX.out)
      clear hxk
      have hcx2 := gro_keeps hcx os d
      go_wp2_with (go_at_call 55; go_must ((with_reducible refine (cut58_i x hxs (Gro.cell (by repeat (first | with_reducible exact Gro.refl _ | with_reducible exact Gro.refl_drew _ _ _ | with_reducible exact Gro.refl_drewN _ _ _ _ | assumption | with_reducible apply Gro.more | with_reducible apply Gro.alloc | with_reducible apply Gro.drew | with_reducible apply Gro.drewN)) HM.out)).mono ?_)); rintro e w2 ⟨⟨a, b, ok0, HAB, ha, hb, rfl⟩, os2, d2, rfl⟩)
      have HP0 := Lib.hid (show parsePart x.data.toList = (parseU b.data.toList).map fun (n : Nat) => (⟨a, (n : Int)⟩ : DFrame) from by
        rw [part_cut, ← HAB.out.1, ← HAB.out.2])
      cases hu : parseU b.data.toList with
      | none =>
        have HU := Lib.hid (parseUo_none hu)
        have HP := Lib.hid (parseR_bad (s := s) (by rw [← HT.out, HD.out, parseL_none (by rw [HP0.out, hu]; rfl)]))
        clear hu
        go_wp2_with (go_at_call 56; go_must ((with_reducible refine (parseU_i b _ (by omega)).mono ?_)); rw [HU.out]; rintro e w3 ⟨rfl, os3, d3, rfl⟩)
        go_ret2
        rw [HP.out]
        exact ⟨none, 0, rfl, fresh_nil _ _, (by repeat (first | with_reducible exact Gro.refl _ | with_reducible exact Gro.refl_drew _ _ _ | with_reducible exact Gro.refl_drewN _ _ _ _ | assumption | with_reducible apply Gro.more | with_reducible apply Gro.alloc | with_reducible apply Gro.drew | with_reducible apply Gro.drewN))⟩
      | some n =>
        have HU := Lib.hid (parseUo_some hu)
        have hn := parseU_le hu
        have HP := Lib.hid (show parseL ((cutA 59 [] s.data.toList).drop (j + 1)) (acc ++ [⟨a, n⟩]) = parseL (cutA 59 [] s.data.toList) [] from by
          rw [← HT.out, HD.out]
          refine (parseL_some ?_).symm
          rw [HP0.out, hu]
          rfl)
        clear hu
        go_wp2_with (first
          | (go_at_call 56; go_must ((with_reducible refine (parseU_i b _ (by omega)).mono ?_)); rw [HU.out]; rintro e w3 ⟨rfl, os3, d3, rfl⟩)
          | (at_builtin; go_must (refine wpList_append_eone (W0 := (gro (w.alloc (.cells #[] 46)) os1 d1)) (L := acc.length + 1) rfl (.tmp 33) (.tmp 37) elFrame flatFrame (hF.out.gro (by repeat (first | with_reducible exact Gro.refl _ | with_reducible exact Gro.refl_drew _ _ _ | with_reducible exact Gro.refl_drewN _ _ _ _ | assumption | with_reducible apply Gro.more | with_reducible apply Gro.alloc | with_reducible apply Gro.drew | with_reducible apply Gro.drewN))) (by repeat (first | with_reducible exact Gro.refl _ | with_reducible exact Gro.refl_drew _ _ _ | with_reducible exact Gro.refl_drewN _ _ _ _ | assumption | with_reducible apply Gro.more | with_reducible apply Gro.alloc | with_reducible apply Gro.drew | with_reducible apply Gro.drewN)) (W1 := w) (B := 0) (ec := [.string a, .int .i64 n]) (y := ⟨a, n⟩) (tFrame_mkR (x := ⟨a, n⟩) (by show a.size ≤ _; omega) (show I64 (n : Int) from ⟨by omega, by omega⟩)) rfl rfl rfl (by simp) (by intro j u hu; simpa [go_sem] using hu) rfl (by omega) (by omega) ?_); intro D2 e2 os4 d4 hF4))
        go_roundw
        case rel => exact ⟨j + 1, acc ++ [⟨a, n⟩], D2, e2, by simp, by go_num, by omega, by simp; omega, HP, Lib.hid (by repeat (first | with_reducible exact Gro.refl _ | with_reducible exact Gro.refl_drew _ _ _ | with_reducible exact Gro.refl_drewN _ _ _ _ | assumption | with_reducible apply Gro.more | with_reducible apply Gro.alloc | with_reducible apply Gro.drew | with_reducible apply Gro.drewN)), Lib.hid (.inr (by simpa using hF4))⟩
        case measure => simp [intOf]; omega
    · have hje : j = Q.length := by omega
      subst hje
      have HE := Lib.hid (show parseL (cutA 59 [] s.data.toList) [] = some acc from by
        rw [← HT.out, List.drop_of_length_le (by rw [← strs_len, HQ.out]; omega)]
        rfl)
      by_cases hz : s.size = 0
      · have HP := Lib.hid (parseR_no HE.out (.inl hz))
        have hsb := emp_yes hz
        go_wp2_with (fail)
        go_ret2
        rw [HP.out]
        exact ⟨none, 0, rfl, fresh_nil _ _, (by repeat (first | with_reducible exact Gro.refl _ | with_reducible exact Gro.refl_drew _ _ _ | with_reducible exact Gro.refl_drewN _ _ _ _ | assumption | with_reducible apply Gro.more | with_reducible apply Gro.alloc | with_reducible apply Gro.drew | with_reducible apply Gro.drewN))⟩
      · have hsb := emp_no hz
        by_cases hf : fmtF acc = s
        · have HP := Lib.hid (parseR_yes HE.out hz hf)
          have hsc : ((fmtF acc).toList == s.toList) = true := by rw [str_eqb]; simp [hf]
          have HF9 := Lib.hid hf
          clear hf
          go_wp2_with (go_at_call 39; go_must ((with_reducible refine (fmtF_i (l := acc) (Ty.up _ (hF.out.fresh (w := w) (by omega) (by simp; omega)).read (by repeat (first | with_reducible exact Gro.refl _ | with_reducible exact Gro.refl_drew _ _ _ | with_reducible exact Gro.refl_drewN _ _ _ _ | assumption | with_reducible apply Gro.more | with_reducible apply Gro.alloc | with_reducible apply Gro.drew | with_reducible apply Gro.drewN))) (by omega)).mono ?_)); rintro e w2 ⟨rfl, os2, d2, rfl⟩)
          go_ret2
          rw [HP.out]
          exact ⟨A, c, rfl, (hF.out.fresh (w := w) (by omega) (by simp; omega)).gro (by repeat (first | with_reducible exact Gro.refl _ | with_reducible exact Gro.refl_drew _ _ _ | with_reducible exact Gro.refl_drewN _ _ _ _ | assumption | with_reducible apply Gro.more | with_reducible apply Gro.alloc | with_reducible apply Gro.drew | with_reducible apply Gro.drewN)), (by repeat (first | with_reducible exact Gro.refl _ | with_reducible exact Gro.refl_drew _ _ _ | with_reducible exact Gro.refl_drewN _ _ _ _ | assumption | with_reducible apply Gro.more | with_reducible apply Gro.alloc | with_reducible apply Gro.drew | with_reducible apply Gro.drewN))⟩
        · have HP := Lib.hid (parseR_no HE.out (.inr hf))
          have hsc : ((fmtF acc).toList == s.toList) = false := by rw [str_eqb]; simp [hf]
          clear hf
          go_wp2_with (go_at_call 39; go_must ((with_reducible refine (fmtF_i (l := acc) (Ty.up _ (hF.out.fresh (w := w) (by omega) (by simp; omega)).read (by repeat (first | with_reducible exact Gro.refl _ | with_reducible exact Gro.refl_drew _ _ _ | with_reducible exact Gro.refl_drewN _ _ _ _ | assumption | with_reducible apply Gro.more | with_reducible apply Gro.alloc | with_reducible apply Gro.drew | with_reducible apply Gro.drewN))) (by omega)).mono ?_)); rintro e w2 ⟨rfl, os2, d2, rfl⟩)
          go_ret2
          rw [HP.out]
          exact ⟨none, 0, rfl, fresh_nil _ _, (by repeat (first | with_reducible exact Gro.refl _ | with_reducible exact Gro.refl_drew _ _ _ | with_reducible exact Gro.refl_drewN _ _ _ _ | assumption | with_reducible apply Gro.more | with_reducible apply Gro.alloc | with_reducible apply Gro.drew | with_reducible apply Gro.drewN))⟩
end Go.Proofs.YtcomafmiclkmhaaGreatDoor
namespace Go.Proofs.YtcomafmiclkmhaaGreatDoor
open Go.RowKit
theorem gro_drew_eq (a : World) (os : Array Obj) (d : Nat) : gro a.drew os d = gro a os d := rfl
theorem Same.tail {a b : World} {X Y os : Array Obj} {d d' n m : Nat} (h : b.heap.size = a.heap.size) (hXY : Y.size = X.size) (hn : a.heap.size + X.size ≤ n) : Same n m (Go.Proofs.YtcomafmiclkmhaaGreatDoor.gro a (X ++ os) d) (Go.Proofs.YtcomafmiclkmhaaGreatDoor.gro b (Y ++ os) d') := by
  intro k hk _
  simp only [Go.Proofs.YtcomafmiclkmhaaGreatDoor.gro]
  rw [Array.getElem?_append_right (by omega), Array.getElem?_append_right (by omega), h, Array.getElem?_append_right (by omega), Array.getElem?_append_right (by omega), hXY]
def emptyP : DProfile := ⟨⟨[]⟩, []⟩
theorem emptyP_ok : profileOk emptyP = true := by decide
def stepP (p : DProfile) (e : DEntry) : Option DProfile := if (parseR e.Stack).2 && (addStack p (parseR e.Stack).1 e.Count).2 then some (addStack p (parseR e.Stack).1 e.Count).1 else none
def profL : List DEntry → DProfile → Option DProfile
  | [], p => some p
  | e :: l, p => match stepP p e with
    | some q => profL l q
    | none => none
def profR (l : List DEntry) : DProfile × Bool := match profL l emptyP with
  | some p => (p, true)
  | none => (emptyP, false)
def frs (e : DEntry) : Nat := (parseR e.Stack).1.length
def frSum (l : List DEntry) : Nat := (l.map frs).sum
theorem profL_some {e : DEntry} {l : List DEntry} {p q : DProfile} (h : stepP p e = some q) : profL (e :: l) p = profL l q := by rw [profL, h]
theorem profL_none {e : DEntry} {l : List DEntry} {p : DProfile} (h : stepP p e = none) : profL (e :: l) p = none := by rw [profL, h]
theorem profR_bad {l : List DEntry} (h : profL l emptyP = none) : profR l = (emptyP, false) := by unfold profR; rw [h]
theorem profR_yes {l : List DEntry} {p : DProfile} (h : profL l emptyP = some p) : profR l = (p, true) := by unfold profR; rw [h]
theorem addStack_ok {p : DProfile} {l : List DFrame} {n : Int} (h : (addStack p l n).2 = true) : profileOk (addStack p l n).1 = true := by
  unfold addStack at h ⊢
  split
  · split
    · split
      · rename_i h3
        exact h3
      · rename_i h1 h2 h3
        rw [if_pos h1, if_pos h2, if_neg h3] at h
        cases h
    · rename_i h1 h2
      rw [if_pos h1, if_neg h2] at h
      cases h
  · rename_i h1
    rw [if_neg h1] at h
    cases h
theorem stepP_ok {p q : DProfile} {e : DEntry} (h : stepP p e = some q) : profileOk q = true ∧ q.Stacks.Nodes.length ≤ p.Stacks.Nodes.length + frs e := by
  unfold stepP at h
  split at h
  · rename_i k
    simp only [Bool.and_eq_true] at k
    simp only [Option.some.injEq] at h
    subst h
    exact ⟨addStack_ok k.2, (addStack_len _ _ _).1⟩
  · cases h
theorem profL_ok : ∀ {l : List DEntry} {p q : DProfile}, profileOk p = true → profL l p = some q → profileOk q = true ∧ q.Stacks.Nodes.length ≤ p.Stacks.Nodes.length + frSum l
  | [], p, q, hp, h => by
    simp only [profL, Option.some.injEq] at h
    subst h
    exact ⟨hp, Nat.le_add_right _ _⟩
  | e :: l, p, q, hp, h => by
    rw [profL] at h
    split at h
    · rename_i r hr
      have h1 := stepP_ok hr
      have h2 := profL_ok h1.1 h
      simp only [frSum, List.map_cons, List.sum_cons] at h2 ⊢
      exact ⟨h2.1, by omega⟩
    · cases h
theorem profR_len (l : List DEntry) : (profR l).1.Stacks.Nodes.length ≤ frSum l ∧ (profR l).1.Counts.length ≤ frSum l := by
  unfold profR
  split
  · rename_i p h
    have h1 := profL_ok emptyP_ok h
    have h2 := pOk_len h1.1
    have h3 : emptyP.Stacks.Nodes.length = 0 := rfl
    simp only
    omega
  · exact ⟨Nat.zero_le _, Nat.zero_le _⟩
theorem frSum_le (l : List DEntry) : frSum l ≤ szL szEntry l := by
  have h : ∀ l : List DEntry, (l.map frs).sum ≤ l.length + (l.map szEntry).sum := by
    intro l
    induction l with
    | nil => simp
    | cons e l ih =>
      simp only [List.map_cons, List.sum_cons, List.length_cons]
      have h1 : frs e ≤ e.Stack.size + 1 := parseR_len e.Stack
      have h2 : szEntry e = e.Stack.size := rfl
      omega
  unfold szL frSum
  exact h l
theorem sz_elem {l : List DEntry} {j : Nat} {e : DEntry} (h : l[j]? = some e) : e.Stack.size ≤ szL szEntry l := by
  have h1 : ∀ (l : List DEntry), e ∈ l → e.Stack.size ≤ (l.map szEntry).sum := by
    intro l
    induction l with
    | nil => intro h; cases h
    | cons a l ih =>
      intro h
      simp only [List.map_cons, List.sum_cons]
      rcases List.mem_cons.1 h with rfl | h
      · have : szEntry e = e.Stack.size := rfl
        omega
      · have := ih h
        omega
  have := h1 l (List.mem_of_getElem? h)
  unfold szL
  omega
theorem fresh_emptyP (W0 W : World) : Fresh tProfile W0 W [.slice none 0 0, .slice none 0 0] emptyP :=
  tProfile_fresh (x := emptyP) (u0 := W0) (u1 := W0) (m0 := 0) (m1 := 0) (by
    obtain ⟨S, h1, h2, h3⟩ := fre_nil (T := tNode) (e := 48) W0 W
    exact ⟨S, h1, h2, h3⟩) (fre_nil W0 W) (Nat.le_refl _) (Nat.le_refl _) (by omega)
set_option maxRecDepth 100000 in
set_option maxHeartbeats 4000000 in
theorem profOf_i {l : List DEntry} {m : Int} {w : World} {A : Option Addr} {c : Nat} (hx : (tEntry.sl 62).R w w.heap.size [.slice A l.length c] l) (hsz : ∀ (j : Nat) (e : DEntry), l[j]? = some e → e.Stack.size ≤ 1073741824) (hfr : frSum l ≤ 500000000000) (hm : w.cell? ⟨0, 0, none⟩ = some (.int .i64 m)) :
    Calls Tryz.prog 20 #[.slice A l.length c] w (RetProfileBool (profR l) w) := by
  have HM := Lib.hid hm
  have HSZ := Lib.hid hsz
  clear hm hsz
  obtain ⟨_, _, hv, hcc, hcm⟩ := sl_at hx
  injection hv with hA' _ hc'
  subst hA' hc'
  obtain ⟨N, hN⟩ : ∃ N, frSum l = N := ⟨_, rfl⟩
  rw [hN] at hfr
  have HN := Lib.hid hN
  clear hN
  go_enter Tryz.func20, Tryz.ntmps20
  go_wp2_with (fail)
  go_loopw [14] (fun b wr => ∃ (j r : Nat) (p : DProfile) (A0 : Option Addr) (c0 : Nat) (A1 : Option Addr) (c1 : Nat) (os : Array Obj) (d : Nat), b = .int .i64 j ∧ j ≤ l.length ∧ p.Stacks.Nodes.length + r ≤ N ∧ p.Counts.length ≤ p.Stacks.Nodes.length ∧ Hid (frSum (l.drop j) = r) ∧ Hid (profileOk p = true) ∧ Hid (profL (l.drop j) p = profL l emptyP) ∧ Hid (wr = gro ((w.alloc (.cells #[.slice none 0 0, .slice none 0 0] 29)).alloc (.cells #[.slice A0 p.Stacks.Nodes.length c0, .slice A1 p.Counts.length c1] 29)) os d) ∧ Hid (FrN tProfile (w.heap.size + 2) (w.heap.size + 2 + os.size) wr [.slice A0 p.Stacks.Nodes.length c0, .slice A1 p.Counts.length c1] p)) (fun b _ => l.length - (intOf b).toNat)
  case atStart =>
    refine ⟨0, N, emptyP, none, 0, none, 0, #[], World.drawn ((w.alloc (.cells #[.slice none 0 0, .slice none 0 0] 29)).alloc (.cells #[.slice none 0 0, .slice none 0 0] 29)), rfl, by omega, by show 0 + N ≤ N; omega, Nat.le_refl _, Lib.hid (by simpa using HN.out), Lib.hid emptyP_ok, Lib.hid (by simp), Lib.hid (show _ = gro ((w.alloc (.cells #[.slice none 0 0, .slice none 0 0] 29)).alloc (.cells #[.slice none 0 0, .slice none 0 0] 29)) #[] _ from gro_refl), Lib.hid ?_⟩
    have := (fresh_emptyP ((w.alloc (.cells #[.slice none 0 0, .slice none 0 0] 29)).alloc (.cells #[.slice none 0 0, .slice none 0 0] 29)) ((w.alloc (.cells #[.slice none 0 0, .slice none 0 0] 29)).alloc (.cells #[.slice none 0 0, .slice none 0 0] 29))).frN
    exact this.wide (by simp) (by simp)
  case round =>
    obtain ⟨j, r, p, A0, c0, A1, c1, os, d, rfl, hj, hpr, hpc, hr, hok, HT, hw, hF⟩ := hrel
    have hw' := hw.out
    subst hw'
    clear hw
    by_cases hlt : j < l.length
    · obtain ⟨g, off, e, rfl, hgb, hek, he0, he1, be0, be1⟩ := atEntry hx hlt
      have HX := Lib.hid hek
      have hs := HSZ.out j e hek
      have HD := Lib.hid (drop_atM hek)
      have hr2 : frs e + frSum (l.drop (j + 1)) ≤ r := by rw [← hr.out, HD.out]; simp [frSum]
      obtain ⟨r2, hr3⟩ : ∃ r2, frSum (l.drop (j + 1)) = r2 := ⟨_, rfl⟩
      rw [hr3] at hr2
      have HR2 := Lib.hid hr3
      clear hek hr3
      obtain ⟨fs, ok, hpq⟩ : ∃ fs ok, parseR e.Stack = (fs, ok) := ⟨_, _, rfl⟩
      have hfl : fs.length ≤ frs e := by unfold frs; rw [hpq]; exact Nat.le_refl _
      have HP := Lib.hid hpq
      have HXL := Lib.hid hx
      clear hpq hx
      cases ok with
      | false =>
        have HB := Lib.hid (profR_bad (l := l) (by rw [← HT.out, HD.out, profL_none (by unfold stepP; rw [HP.out]; rfl)]))
        go_wp2_with (first
          | (go_at_call 37; go_must ((with_reducible refine (parseF_i e.Stack hs (Gro.cell (by repeat (first | with_reducible exact Gro.refl _ | with_reducible exact Gro.refl_drew _ _ _ | with_reducible exact Gro.refl_drewN _ _ _ _ | assumption | with_reducible apply Gro.more | with_reducible apply Gro.alloc | with_reducible apply Gro.drew | with_reducible apply Gro.drewN)) HM.out)).mono ?_)); rw [HP.out]; rintro e9 w2 ⟨A2, c2, rfl, hF2, os2, d2, rfl⟩))
        refine bodyPost_ret (v := .tuple #[.agg #[.slice none 0 0, .slice none 0 0], .bool false]) (by simp [results, Tryz.results20, go_sem]) rfl (ret_profile_bool HB.out (fresh_emptyP _ _) (by repeat (first | with_reducible exact Gro.refl _ | with_reducible exact Gro.refl_drew _ _ _ | with_reducible exact Gro.refl_drewN _ _ _ _ | assumption | with_reducible apply Gro.more | with_reducible apply Gro.alloc | with_reducible apply Gro.drew | with_reducible apply Gro.drewN)))
      | true =>
        obtain ⟨q, fine, hq⟩ : ∃ q fine, addStack p fs e.Count = (q, fine) := ⟨_, _, rfl⟩
        have hql := addStack_len p fs e.Count
        have HQ := Lib.hid hq
        rw [hq] at hql
        simp only at hql
        clear hq
        cases fine with
        | false =>
          have HB := Lib.hid (profR_bad (l := l) (by rw [← HT.out, HD.out, profL_none (by unfold stepP; rw [HP.out]; simp only; rw [HQ.out]; rfl)]))
          go_wp2_with (first
            | (go_at_call 37; go_must ((with_reducible refine (parseF_i e.Stack hs (Gro.cell (by repeat (first | with_reducible exact Gro.refl _ | with_reducible exact Gro.refl_drew _ _ _ | with_reducible exact Gro.refl_drewN _ _ _ _ | assumption | with_reducible apply Gro.more | with_reducible apply Gro.alloc | with_reducible apply Gro.drew | with_reducible apply Gro.drewN)) HM.out)).mono ?_)); rw [HP.out]; rintro e9 w2 ⟨A2, c2, rfl, hF2, os2, d2, rfl⟩)
            | (go_at_call 38; go_must ((with_reducible refine (addStack_i (p := p) (l := fs) (n := e.Count) (Ty.up _ (rdProf hF.out.read).1 (by repeat (first | with_reducible exact Gro.refl _ | with_reducible exact Gro.refl_drew _ _ _ | with_reducible exact Gro.refl_drewN _ _ _ _ | assumption | with_reducible apply Gro.more | with_reducible apply Gro.alloc | with_reducible apply Gro.drew | with_reducible apply Gro.drewN))) (Ty.up _ (rdProf hF.out.read).2 (by repeat (first | with_reducible exact Gro.refl _ | with_reducible exact Gro.refl_drew _ _ _ | with_reducible exact Gro.refl_drewN _ _ _ _ | assumption | with_reducible apply Gro.more | with_reducible apply Gro.alloc | with_reducible apply Gro.drew | with_reducible apply Gro.drewN))) (Ty.up _ hF2.read (by repeat (first | with_reducible exact Gro.refl _ | with_reducible exact Gro.refl_drew _ _ _ | with_reducible exact Gro.refl_drewN _ _ _ _ | assumption | with_reducible apply Gro.more | with_reducible apply Gro.alloc | with_reducible apply Gro.drew | with_reducible apply Gro.drewN))) (by omega) (by omega) (by omega)).mono ?_)); rw [HQ.out]; rintro e9 w3 ⟨A3, c3, A4, c4, rfl, hF3, os3, d3, rfl⟩))
          refine bodyPost_ret (v := .tuple #[.agg #[.slice none 0 0, .slice none 0 0], .bool false]) (by simp [results, Tryz.results20, go_sem]) rfl (ret_profile_bool HB.out (fresh_emptyP _ _) (by repeat (first | with_reducible exact Gro.refl _ | with_reducible exact Gro.refl_drew _ _ _ | with_reducible exact Gro.refl_drewN _ _ _ _ | assumption | with_reducible apply Gro.more | with_reducible apply Gro.alloc | with_reducible apply Gro.drew | with_reducible apply Gro.drewN)))
        | true =>
          have HS := Lib.hid (show stepP p e = some q from by unfold stepP; rw [HP.out]; simp only; rw [HQ.out]; rfl)
          have HK := Lib.hid (stepP_ok HS.out).1
          have hqc : q.Counts.length ≤ q.Stacks.Nodes.length := Nat.le_of_eq (pOk_len HK.out)
          have hqn : q.Stacks.Nodes.length ≤ p.Stacks.Nodes.length + frs e := (stepP_ok HS.out).2
          go_wp2_with (first
            | (go_at_call 37; go_must ((with_reducible refine (parseF_i e.Stack hs (Gro.cell (by repeat (first | with_reducible exact Gro.refl _ | with_reducible exact Gro.refl_drew _ _ _ | with_reducible exact Gro.refl_drewN _ _ _ _ | assumption | with_reducible apply Gro.more | with_reducible apply Gro.alloc | with_reducible apply Gro.drew | with_reducible apply Gro.drewN)) HM.out)).mono ?_)); rw [HP.out]; rintro e9 w2 ⟨A2, c2, rfl, hF2, os2, d2, rfl⟩)
            | (go_at_call 38; go_must ((with_reducible refine (addStack_i (p := p) (l := fs) (n := e.Count) (Ty.up _ (rdProf hF.out.read).1 (by repeat (first | with_reducible exact Gro.refl _ | with_reducible exact Gro.refl_drew _ _ _ | with_reducible exact Gro.refl_drewN _ _ _ _ | assumption | with_reducible apply Gro.more | with_reducible apply Gro.alloc | with_reducible apply Gro.drew | with_reducible apply Gro.drewN))) (Ty.up _ (rdProf hF.out.read).2 (by repeat (first | with_reducible exact Gro.refl _ | with_reducible exact Gro.refl_drew _ _ _ | with_reducible exact Gro.refl_drewN _ _ _ _ | assumption | with_reducible apply Gro.more | with_reducible apply Gro.alloc | with_reducible apply Gro.drew | with_reducible apply Gro.drewN))) (Ty.up _ hF2.read (by repeat (first | with_reducible exact Gro.refl _ | with_reducible exact Gro.refl_drew _ _ _ | with_reducible exact Gro.refl_drewN _ _ _ _ | assumption | with_reducible apply Gro.more | with_reducible apply Gro.alloc | with_reducible apply Gro.drew | with_reducible apply Gro.drewN))) (by omega) (by omega) (by omega)).mono ?_)); rw [HQ.out]; rintro e9 w3 ⟨A3, c3, A4, c4, rfl, hF3, os3, d3, rfl⟩))
          go_roundw
          case rel =>
            refine ⟨j + 1, r2, q, A3, c3, A4, c4, _, _, by go_num, by omega, by omega, hqc, HR2, HK, Lib.hid (by rw [← HT.out, HD.out, profL_some HS.out]), Lib.hid (by simp only [gro_alloc, gro_gro]; rfl), Lib.hid ?_⟩
            have h9 := hF3.gro ((Gro.refl _).alloc (.cells #[.slice A3 q.Stacks.Nodes.length c3, .slice A4 q.Counts.length c4] 29))
            simp only [gro_alloc, gro_gro] at h9 ⊢
            refine FrN.wide (FrN.same h9.frN (Same.base ?_ ?_)) ?_ ?_
            · simp
            · simp <;> omega
            · simp <;> omega
            · simp <;> omega
          case measure => simp [intOf]; omega
    · have hje : j = l.length := by omega
      subst hje
      have HE := Lib.hid (profR_yes (l := l) (p := p) (by rw [← HT.out, List.drop_length]; rfl))
      go_wp2_with (fail)
      refine bodyPost_ret (v := .tuple #[.agg #[.slice A0 p.Stacks.Nodes.length c0, .slice A1 p.Counts.length c1], .bool true]) (by simp [results, Tryz.results20, go_sem]) rfl (ret_profile_bool HE.out ?_ (by repeat (first | with_reducible exact Gro.refl _ | with_reducible exact Gro.refl_drew _ _ _ | with_reducible exact Gro.refl_drewN _ _ _ _ | assumption | with_reducible apply Gro.more | with_reducible apply Gro.alloc | with_reducible apply Gro.drew | with_reducible apply Gro.drewN)))
      exact (hF.out.same (Same.base (by simp) (by simp))).fresh (by simp)
end Go.Proofs.YtcomafmiclkmhaaGreatDoor
namespace Go.Proofs.YtcomafmiclkmhaaGreatDoor
open Go.RowKit
theorem names_sum {t : DStacks} (h : stacksOk t = true) : t.Nodes.length ≤ (t.Nodes.map szNode).sum := by
  have h1 : ∀ x ∈ t.Nodes, 1 ≤ szNode x := fun x hx => by
    obtain ⟨j, hj, rfl⟩ := List.getElem_of_mem hx
    have := (stacksOk_par h (List.getElem?_eq_getElem hj)).2.2.1
    simp only [frameOk, Bool.and_eq_true] at this
    have h3 := nameOk_size this.1
    exact h3.1
  have h2 : ∀ l : List DNode, (∀ x ∈ l, 1 ≤ szNode x) → l.length ≤ (l.map szNode).sum := by
    intro l
    induction l with
    | nil => intro _; simp
    | cons a l ih =>
      intro h
      have := ih fun x hx => h x (List.mem_cons_of_mem _ hx)
      have := h a List.mem_cons_self
      simp only [List.length_cons, List.map_cons, List.sum_cons]
      omega
  exact h2 _ h1
theorem prof_three {p : DProfile} (h : profileOk p = true) : 3 * p.Stacks.Nodes.length ≤ szProfile p := by
  have h1 := pOk_len h
  have h2 : stacksOk p.Stacks = true := by simp only [profileOk, Bool.and_eq_true] at h; exact h.1
  have h3 := names_sum h2
  unfold szProfile szStacks szL
  omega
theorem fmtF_none {l : List DFrame} (h : (fmtF l).size ≠ 0) : l.all frameOk = true ∧ l ≠ [] := by
  unfold fmtF at h
  split at h
  · rename_i k
    refine ⟨k, fun e => ?_⟩
    subst e
    exact h rfl
  · exact absurd rfl h
theorem parse_fmt {l fs : List DFrame} (h : parseF (fmtF l) = some fs) : fs = l := by
  obtain ⟨h1, h2⟩ := parseF_fmt h
  have k1 := fmtF_none h2
  have k2 := fmtF_none (l := fs) (by rw [h1]; exact h2)
  exact fmtF_inj k2.1 k1.1 k2.2 k1.2 h1
theorem frs_fmt (l : List DFrame) : (parseR (fmtF l)).1.length ≤ l.length := by
  unfold parseR
  split
  · rename_i fs h
    rw [parse_fmt h]
    exact Nat.le_refl _
  · simp
theorem entTake_mem {p : DProfile} {n : Nat} {e : DEntry} (h : e ∈ entTake p n) : ∃ k : Nat, e.Stack = fmtF (stackAt p.Stacks k) := by
  unfold entTake at h
  obtain ⟨k, _, hk⟩ := List.mem_filterMap.1 h
  unfold entAt at hk
  split at hk
  · split at hk
    · cases hk
    · simp only [Option.some.injEq] at hk
      subst hk
      exact ⟨k, rfl⟩
  · cases hk
theorem ents_mem {p : DProfile} {e : DEntry} (h : e ∈ entriesOf p) : ∃ k : Nat, e.Stack = fmtF (stackAt p.Stacks k) := by
  unfold entriesOf at h
  split at h
  · have := (foldl_insE_perm (entTake p p.Counts.length) []).mem_iff.1 h
    exact entTake_mem (by simpa using this)
  · cases h
theorem ents_sz {p : DProfile} {j : Nat} {e : DEntry} (h : (entriesOf p)[j]? = some e) : e.Stack.size ≤ 12 * p.Stacks.Nodes.length := by
  obtain ⟨k, hk⟩ := ents_mem (List.mem_of_getElem? h)
  have h1 := fmtF_size (stackAt p.Stacks k)
  have h2 := stackAt_len p.Stacks k
  rw [hk]
  omega
theorem frSum_ents (p : DProfile) : frSum (entriesOf p) ≤ p.Stacks.Nodes.length * p.Stacks.Nodes.length := by
  have h1 : ∀ l : List DEntry, (∀ e ∈ l, frs e ≤ p.Stacks.Nodes.length) → (l.map frs).sum ≤ l.length * p.Stacks.Nodes.length := by
    intro l
    induction l with
    | nil => intro _; simp
    | cons a l ih =>
      intro h
      have := ih fun x hx => h x (List.mem_cons_of_mem _ hx)
      have := h a List.mem_cons_self
      simp only [List.length_cons, List.map_cons, List.sum_cons]
      rw [Nat.add_mul]
      omega
  have h2 : (entriesOf p).length ≤ p.Stacks.Nodes.length := by
    by_cases h : profileOk p = true
    · have := entriesOf_len p
      rw [pOk_len h] at this
      exact this
    · unfold entriesOf
      rw [if_neg h]
      exact Nat.zero_le _
  refine Nat.le_trans (h1 (entriesOf p) (fun e he => ?_)) (Nat.mul_le_mul_right _ h2)
  obtain ⟨k, hk⟩ := ents_mem he
  unfold frs
  rw [hk]
  exact Nat.le_trans (frs_fmt _) (stackAt_len _ _)
theorem sq_le {n m : Nat} (h : n ≤ m) : n * n ≤ m * m := Nat.mul_le_mul h h
theorem frSum_app (a b : List DEntry) : frSum (a ++ b) = frSum a + frSum b := by simp [frSum]
theorem ents_bad {p : DProfile} (h : profileOk p = false) : entriesOf p = [] := by
  unfold entriesOf
  rw [h]
  rfl
theorem frSum_small {p : DProfile} (h : szProfile p ≤ 1048576) : frSum (entriesOf p) ≤ 122500000000 := by
  cases hp : profileOk p
  · rw [ents_bad hp]
    exact Nat.zero_le _
  · have h1 := prof_three hp
    have h3 := frSum_ents p
    have h4 := sq_le (n := p.Stacks.Nodes.length) (m := 350000) (by omega)
    omega
def tidyP (p : DProfile) : DProfile := (profR (entriesOf p)).1
theorem tidyP_bad {p : DProfile} (h : profileOk p = false) : tidyP p = emptyP := by
  unfold tidyP
  rw [ents_bad h]
  rfl
theorem tidyP_len {p : DProfile} (h : szProfile p ≤ 1048576) : (tidyP p).Stacks.Nodes.length ≤ 122500000000 ∧ (tidyP p).Counts.length ≤ 122500000000 := by
  cases hp : profileOk p
  · rw [tidyP_bad hp]
    exact ⟨Nat.zero_le _, Nat.zero_le _⟩
  · have h1 := prof_three hp
    have h2 := profR_len (entriesOf p)
    have h3 := frSum_ents p
    have h4 := sq_le (n := p.Stacks.Nodes.length) (m := 350000) (by omega)
    unfold tidyP
    omega
set_option maxRecDepth 100000 in
set_option maxHeartbeats 4000000 in
theorem tidy_i {p : DProfile} {m : Int} {w : World} {A0 A1 : Option Addr} {c0 c1 : Nat} (hx : (tNode.sl 48).R w w.heap.size [.slice A0 p.Stacks.Nodes.length c0] p.Stacks.Nodes) (hy : (intT.sl 3).R w w.heap.size [.slice A1 p.Counts.length c1] p.Counts) (hn : p.Stacks.Nodes.length ≤ 16777216) (hfr : frSum (entriesOf p) ≤ 500000000000) (hm : w.cell? ⟨0, 0, none⟩ = some (.int .i64 m)) :
    Calls Tryz.prog 8 #[.agg #[.slice A0 p.Stacks.Nodes.length c0, .slice A1 p.Counts.length c1]] w (RetProfile (tidyP p) w) := by
  have HM := Lib.hid hm
  obtain ⟨q, ok, hq⟩ : ∃ q ok, profR (entriesOf p) = (q, ok) := ⟨_, _, rfl⟩
  have HQ := Lib.hid hq
  have HT := Lib.hid (show tidyP p = q from by unfold tidyP; rw [hq])
  clear hm hq
  go_enter Tryz.func8, Tryz.ntmps8
  go_wp2_with (first
    | (go_at_call 21; go_must ((with_reducible refine (entriesOf_i (p := p) (Ty.up _ hx (by repeat (first | with_reducible exact Gro.refl _ | with_reducible exact Gro.refl_drew _ _ _ | with_reducible exact Gro.refl_drewN _ _ _ _ | assumption | with_reducible apply Gro.more | with_reducible apply Gro.alloc | with_reducible apply Gro.drew | with_reducible apply Gro.drewN))) (Ty.up _ hy (by repeat (first | with_reducible exact Gro.refl _ | with_reducible exact Gro.refl_drew _ _ _ | with_reducible exact Gro.refl_drewN _ _ _ _ | assumption | with_reducible apply Gro.more | with_reducible apply Gro.alloc | with_reducible apply Gro.drew | with_reducible apply Gro.drewN))) (by omega)).mono ?_)); rintro e w3 ⟨B3, b3, rfl, hF3, os3, d3, rfl⟩)
    | (go_at_call 20; go_must ((with_reducible refine (profOf_i (l := entriesOf p) (Ty.up _ hF3.read (by repeat (first | with_reducible exact Gro.refl _ | with_reducible exact Gro.refl_drew _ _ _ | with_reducible exact Gro.refl_drewN _ _ _ _ | assumption | with_reducible apply Gro.more | with_reducible apply Gro.alloc | with_reducible apply Gro.drew | with_reducible apply Gro.drewN))) (fun j e h => by have := ents_sz h; omega) hfr (Gro.cell (by repeat (first | with_reducible exact Gro.refl _ | with_reducible exact Gro.refl_drew _ _ _ | with_reducible exact Gro.refl_drewN _ _ _ _ | assumption | with_reducible apply Gro.more | with_reducible apply Gro.alloc | with_reducible apply Gro.drew | with_reducible apply Gro.drewN)) HM.out)).mono ?_)); rw [HQ.out]; rintro e w4 ⟨A3, c3, A4, c4, rfl, hF4, os4, d4, rfl⟩))
  refine bodyPost_ret (v := .agg #[.slice A3 q.Stacks.Nodes.length c3, .slice A4 q.Counts.length c4]) (by simp [results, Tryz.results8, go_sem]) rfl ?_
  rw [HT.out]
  refine ⟨A3, c3, A4, c4, rfl, ?_, (by repeat (first | with_reducible exact Gro.refl _ | with_reducible exact Gro.refl_drew _ _ _ | with_reducible exact Gro.refl_drewN _ _ _ _ | assumption | with_reducible apply Gro.more | with_reducible apply Gro.alloc | with_reducible apply Gro.drew | with_reducible apply Gro.drewN))⟩
  have h9 := hF4.gro ((Gro.refl _).alloc (.cells #[.slice A3 q.Stacks.Nodes.length c3, .slice A4 q.Counts.length c4] 29))
  simp only [gro_alloc, gro_drew_eq, gro_gro] at h9 ⊢
  refine FrN.fresh (FrN.same h9.frN (Same.base ?_ ?_)) ?_
  · simp
  · simp <;> omega
  · simp <;> omega
end Go.Proofs.YtcomafmiclkmhaaGreatDoor
namespace Go.Proofs.YtcomafmiclkmhaaGreatDoor
open Go.RowKit
theorem fresh_gro2 {α : Type} {T : Ty α} {Y : World} {os os' : Array Obj} {d d' : Nat} {cs : List Value} {x : α} (h : Fresh T Y (gro Y os d) cs x) : Fresh T Y (gro Y (os ++ os') d') cs x := by
  rw [← gro_gro os os' d d']
  exact h.gro (Gro.of _ _ _)
theorem gro2_alloc {Y : World} {os os' : Array Obj} {d d' : Nat} {b : Obj} : Gro ((gro Y (os ++ os') d').alloc b) ((gro (gro Y os d) os' d').alloc b) := by
  rw [gro_gro]
  exact Gro.refl _
theorem gro_of2 {Y : World} {os os' : Array Obj} {d d' : Nat} : Gro Y (gro (gro Y os d) os' d') := by
  rw [gro_gro]
  exact Gro.of _ _ _
theorem arr_split (o : Array Obj) (n m : Nat) (h : o.size = n + m) : ∃ x y : Array Obj, o = x ++ y ∧ x.size = n ∧ y.size = m := by
  refine ⟨⟨o.toList.take n⟩, ⟨o.toList.drop n⟩, ?_, ?_, ?_⟩
  · apply Array.toList_inj.1
    simp
  · have : o.toList.length = n + m := by simpa using h
    simp
    omega
  · have : o.toList.length = n + m := by simpa using h
    simp
    omega
section
variable {α : Type} {T : Ty α} {e : TypeId} {P : Program} {t : TypeId} {bytes : Nat} {ops : Array Oper} {o : Oper} {a : Act} {Q : Exit → Act → World → Prop} {K : Act → World → Prop}
/-- 'append(own, read...)' in a region that draws; a box lies behind the list -/
theorem step_append_flat1 {E : Prop} (hgd : o.guard = none) (s x : Operand) (hE : Elem P t e T bytes) (hf : Flat T) {X W : World} {os : Array Obj} {d : Nat} {b : Obj} {A : Option Addr} {n c : Nat} {xs : List α} (h : Fresh (T.sl e) X (Go.Proofs.YtcomafmiclkmhaaGreatDoor.gro X os d) [.slice A n c] xs) (hg : Gro ((Go.Proofs.YtcomafmiclkmhaaGreatDoor.gro X os d).alloc b) W)
    {B : Nat} {e' : TypeId} {A2 : Option Addr} {m c2 : Nat} {ys : List α} (hy : (T.sl e').R W B [.slice A2 m c2] ys)
    (ho : o.op = .call { callee := .builtin .append, args := #[s, x], argTypes := #[t, t] }) (hs : a.eval s = .slice A n c) (hx : a.eval x = .slice A2 m c2)
    {L : Nat} (hL : L = n + m) (hb : L * bytes ≤ 140737488355328) (h63 : L ≤ 9223372036854775807)
    (hK : ∀ A' c'' os' os2 d2, os'.size = os.size → Fresh (T.sl e) X (Go.Proofs.YtcomafmiclkmhaaGreatDoor.gro ((Go.Proofs.YtcomafmiclkmhaaGreatDoor.gro X os' d).alloc b) os2 d2) [.slice A' L c''] (xs ++ ys) → K (a.put o.dst (.slice A' L c'')) (Go.Proofs.YtcomafmiclkmhaaGreatDoor.gro ((Go.Proofs.YtcomafmiclkmhaaGreatDoor.gro X os' d).alloc b) os2 d2)) : if Region.wanted o (yielded ops a.tmps) = true then Oper.wp P o a W K Q else E := by
  have hw : Region.wanted o (yielded ops a.tmps) = true := by simp [Region.wanted, hgd]
  rw [if_pos hw]
  have hfe : Fre (T.sl e) X (Go.Proofs.YtcomafmiclkmhaaGreatDoor.gro X os d).heap.size W [.slice A n c] xs := by
    obtain ⟨S, h1, h2, h3⟩ := h.fre
    exact ⟨S, (T.sl e).groO h1 (((Gro.refl _).alloc b).trans hg), h2, h3⟩
  obtain ⟨A', c'', W', hrun, ⟨row, hgr, hrow⟩, hF⟩ := run_append_flat (P := P) (ty := o.type) hE hf (m0 := X.heap.size + os.size + 1) (by have := hg.size; rw [World.size_alloc, gro_size] at this; exact this) hfe hy hL hb h63
  obtain ⟨os', os2, d2, hos, rfl⟩ := relit1 hg hgr (fun k hk => by have := hrow k hk; rw [gro_size] at this; exact this)
  exact wp_of_run_append s x ho hs hx hrun (hK A' c'' os' os2 d2 hos (hF.fresh (by omega)))
/-- .. two calls' blocks lie between -/
theorem step_append_flat2 {E : Prop} (hgd : o.guard = none) (s x : Operand) (hE : Elem P t e T bytes) (hf : Flat T) {X W : World} {os os1 : Array Obj} {d d1 : Nat} {b : Obj} {A : Option Addr} {n c : Nat} {xs : List α} (h : Fresh (T.sl e) X (Go.Proofs.YtcomafmiclkmhaaGreatDoor.gro X os d) [.slice A n c] xs) (hg : Gro ((Go.Proofs.YtcomafmiclkmhaaGreatDoor.gro (Go.Proofs.YtcomafmiclkmhaaGreatDoor.gro X os d) os1 d1).alloc b) W)
    {B : Nat} {e' : TypeId} {A2 : Option Addr} {m c2 : Nat} {ys : List α} (hy : (T.sl e').R W B [.slice A2 m c2] ys)
    (ho : o.op = .call { callee := .builtin .append, args := #[s, x], argTypes := #[t, t] }) (hs : a.eval s = .slice A n c) (hx : a.eval x = .slice A2 m c2)
    {L : Nat} (hL : L = n + m) (hb : L * bytes ≤ 140737488355328) (h63 : L ≤ 9223372036854775807)
    (hK : ∀ A' c'' os' os1' os2 d2, os'.size = os.size → os1'.size = os1.size → Fresh (T.sl e) X (Go.Proofs.YtcomafmiclkmhaaGreatDoor.gro ((Go.Proofs.YtcomafmiclkmhaaGreatDoor.gro (Go.Proofs.YtcomafmiclkmhaaGreatDoor.gro X os' d) os1' d1).alloc b) os2 d2) [.slice A' L c''] (xs ++ ys) → K (a.put o.dst (.slice A' L c'')) (Go.Proofs.YtcomafmiclkmhaaGreatDoor.gro ((Go.Proofs.YtcomafmiclkmhaaGreatDoor.gro (Go.Proofs.YtcomafmiclkmhaaGreatDoor.gro X os' d) os1' d1).alloc b) os2 d2)) : if Region.wanted o (yielded ops a.tmps) = true then Oper.wp P o a W K Q else E := by
  refine step_append_flat1 (os := os ++ os1) (d := d1) (b := b) hgd s x hE hf (fresh_gro2 h) (by rw [← gro_gro os os1 d d1]; exact hg) hy ho hs hx hL hb h63 ?_
  intro A' c'' o9 os2 d2 h9 hF
  rw [Array.size_append] at h9
  obtain ⟨x9, y9, rfl, hx9, hy9⟩ := arr_split o9 _ _ h9
  rw [← gro_gro x9 y9 d d1] at hF ⊢
  exact hK A' c'' x9 y9 os2 d2 hx9 hy9 hF
end
theorem fresh_drew {α : Type} {T : Ty α} {a b : World} {cs : List Value} {x : α} : Fresh T a.drew b cs x = Fresh T a b cs x := rfl
def mergeP (p q : DProfile) : DProfile × Bool := if profileOk p && profileOk q then profR (entriesOf p ++ entriesOf q) else (emptyP, false)
theorem mergeP_len {p q : DProfile} (h : szProfile p + szProfile q ≤ 1048576) : (mergeP p q).1.Stacks.Nodes.length ≤ 122500000000 ∧ (mergeP p q).1.Counts.length ≤ 122500000000 ∧ frSum (entriesOf p ++ entriesOf q) ≤ 122500000000 := by
  have h5 : frSum (entriesOf p ++ entriesOf q) ≤ 122500000000 := by
    rw [frSum_app]
    have hp : frSum (entriesOf p) ≤ p.Stacks.Nodes.length * p.Stacks.Nodes.length := frSum_ents p
    have hq : frSum (entriesOf q) ≤ q.Stacks.Nodes.length * q.Stacks.Nodes.length := frSum_ents q
    cases kp : profileOk p
    · rw [ents_bad kp]
      have h0 : frSum [] = 0 := rfl
      have := frSum_small (p := q) (by omega)
      omega
    · cases kq : profileOk q
      · rw [ents_bad kq]
        have h0 : frSum [] = 0 := rfl
        have := frSum_small (p := p) (by omega)
        omega
      · have h1 := prof_three kp
        have h2 := prof_three kq
        have h4 := sq_le (n := p.Stacks.Nodes.length + q.Stacks.Nodes.length) (m := 350000) (by omega)
        have h6 : (p.Stacks.Nodes.length + q.Stacks.Nodes.length) * (p.Stacks.Nodes.length + q.Stacks.Nodes.length) = p.Stacks.Nodes.length * p.Stacks.Nodes.length + p.Stacks.Nodes.length * q.Stacks.Nodes.length + (q.Stacks.Nodes.length * p.Stacks.Nodes.length + q.Stacks.Nodes.length * q.Stacks.Nodes.length) := by
          rw [Nat.add_mul, Nat.mul_add, Nat.mul_add]
        omega
  refine ⟨?_, ?_, h5⟩
  all_goals
    unfold mergeP
    split
    · have := profR_len (entriesOf p ++ entriesOf q)
      omega
    · exact Nat.zero_le _
theorem ents_sz2 {p q : DProfile} {j : Nat} {e : DEntry} (h : (entriesOf p ++ entriesOf q)[j]? = some e) : e.Stack.size ≤ 12 * (p.Stacks.Nodes.length + q.Stacks.Nodes.length) := by
  have := List.mem_of_getElem? h
  rcases List.mem_append.1 this with h | h
  · obtain ⟨k, hk, rfl⟩ := List.getElem_of_mem h
    have := ents_sz (List.getElem?_eq_getElem hk)
    omega
  · obtain ⟨k, hk, rfl⟩ := List.getElem_of_mem h
    have := ents_sz (List.getElem?_eq_getElem hk)
    omega
end Go.Proofs.YtcomafmiclkmhaaGreatDoor
namespace Go.Proofs.YtcomafmiclkmhaaGreatDoor
open Go.RowKit
/-- the path to a node -/
def path (ns : List DNode) (k : Nat) : List DFrame := upL ns (k + 1) k []
def pathI (ns : List DNode) (a : Int) : List DFrame := if a < 0 then [] else path ns a.toNat
theorem upL_neg (ns : List DNode) (n : Nat) (k : Int) (acc : List DFrame) (h : k < 0) : upL ns n k acc = acc := by
  cases n with
  | zero => rfl
  | succ n => rw [upL, if_pos h]
theorem upL_fuel {ns : List DNode} (h : stacksOk ⟨ns⟩ = true) : ∀ (k n : Nat), k < n → k < ns.length → upL ns n k [] = path ns k := by
  intro k
  induction k using Nat.strongRecOn with
  | _ k ih =>
    intro n hn hk
    obtain ⟨x, hx⟩ : ∃ x, ns[k]? = some x := ⟨_, List.getElem?_eq_getElem hk⟩
    have hp := stacksOk_par h hx
    cases n with
    | zero => exact absurd hn (Nat.not_lt_zero _)
    | succ n =>
      unfold path
      rw [upL, upL, if_neg (by omega), if_neg (by omega), Int.toNat_natCast, hx]
      simp only
      rw [upL_acc, upL_acc ns k]
      congr 1
      by_cases hm : x.Parent < 0
      · rw [upL_neg _ _ _ _ hm, upL_neg _ _ _ _ hm]
      · obtain ⟨j, hj⟩ : ∃ j : Nat, x.Parent = (j : Int) := ⟨x.Parent.toNat, by omega⟩
        rw [hj, ih j (by omega) n (by omega) (by omega), ih j (by omega) k (by omega) (by omega)]
theorem path_step {ns : List DNode} (h : stacksOk ⟨ns⟩ = true) {k : Nat} {x : DNode} (hx : ns[k]? = some x) : path ns k = pathI ns x.Parent ++ [x.Frame] := by
  have hp := stacksOk_par h hx
  have hk := (List.getElem?_eq_some_iff.1 hx).1
  unfold path pathI
  rw [upL, if_neg (by omega), Int.toNat_natCast, hx]
  simp only
  rw [upL_acc]
  congr 1
  by_cases hm : x.Parent < 0
  · rw [upL_neg _ _ _ _ hm, if_pos hm]
  · obtain ⟨j, hj⟩ : ∃ j : Nat, x.Parent = (j : Int) := ⟨x.Parent.toNat, by omega⟩
    rw [hj, if_neg (by omega), upL_fuel h j k (by omega) (by omega), Int.toNat_natCast]
theorem path_ne {ns : List DNode} (h : stacksOk ⟨ns⟩ = true) {k : Nat} (hk : k < ns.length) : path ns k ≠ [] := by
  rw [path_step h (List.getElem?_eq_getElem hk)]
  simp
theorem path_inj {ns : List DNode} (h : stacksOk ⟨ns⟩ = true) {i j : Nat} (hi : i < ns.length) (hj : j < ns.length) (he : path ns i = path ns j) : i = j := by
  refine upL_inj h i j _ _ (List.getElem?_eq_getElem hi) (List.getElem?_eq_getElem hj) ?_
  rw [upL_fuel h i _ hi hi, upL_fuel h j _ hj hj, he]
theorem pathI_nat (ns : List DNode) (k : Nat) : pathI ns (k : Int) = path ns k := by
  unfold pathI
  rw [if_neg (by omega), Int.toNat_natCast]
theorem pathI_neg (ns : List DNode) {a : Int} (h : a < 0) : pathI ns a = [] := by
  unfold pathI
  rw [if_pos h]
theorem pathI_inj {ns : List DNode} (h : stacksOk ⟨ns⟩ = true) {a b : Int} (ha : -1 ≤ a) (ha2 : a < ns.length) (hb : -1 ≤ b) (hb2 : b < ns.length) (he : pathI ns a = pathI ns b) : a = b := by
  by_cases h1 : a < 0
  · by_cases h2 : b < 0
    · omega
    · obtain ⟨j, rfl⟩ : ∃ j : Nat, b = (j : Int) := ⟨b.toNat, by omega⟩
      rw [pathI_neg _ h1, pathI_nat] at he
      exact absurd he.symm (path_ne h (by omega))
  · obtain ⟨i, rfl⟩ : ∃ j : Nat, a = (j : Int) := ⟨a.toNat, by omega⟩
    by_cases h2 : b < 0
    · rw [pathI_neg _ h2, pathI_nat] at he
      exact absurd he (path_ne h (by omega))
    · obtain ⟨j, rfl⟩ : ∃ j : Nat, b = (j : Int) := ⟨b.toNat, by omega⟩
      rw [pathI_nat, pathI_nat] at he
      rw [path_inj h (by omega) (by omega) he]
theorem upL_app {ns : List DNode} (h : stacksOk ⟨ns⟩ = true) (ms : List DNode) : ∀ (n : Nat) (k : Int) (acc : List DFrame), k < ns.length → upL (ns ++ ms) n k acc = upL ns n k acc
  | 0, _, _, _ => rfl
  | n + 1, k, acc, hk => by
    rw [upL, upL]
    by_cases hm : k < 0
    · rw [if_pos hm, if_pos hm]
    · rw [if_neg hm, if_neg hm, List.getElem?_append_left (by omega)]
      cases hx : ns[k.toNat]? with
      | none => rfl
      | some x =>
        have hp := stacksOk_par h hx
        simp only
        rw [upL_app h ms n _ _ (by omega)]
theorem path_app {ns : List DNode} (h : stacksOk ⟨ns⟩ = true) (ms : List DNode) {k : Nat} (hk : k < ns.length) : path (ns ++ ms) k = path ns k := upL_app h ms _ _ _ (by omega)
theorem pathI_app {ns : List DNode} (h : stacksOk ⟨ns⟩ = true) (ms : List DNode) {a : Int} (hk : a < ns.length) : pathI (ns ++ ms) a = pathI ns a := by
  unfold pathI
  split
  · rfl
  · exact path_app h ms (by omega)
theorem child_some {ns : List DNode} {a : Int} {f : DFrame} (h : ¬ childV ns a f < 0) : ns[(childV ns a f).toNat]? = some ⟨a, f⟩ := by
  unfold childV at h ⊢
  split at h
  · rename_i i hi
    have := List.findIdx?_eq_some_iff_getElem.1 hi
    obtain ⟨h1, h2, _⟩ := this
    simp only [Int.toNat_natCast]
    rw [List.getElem?_eq_getElem h1]
    simp only [isChild, Bool.and_eq_true, decide_eq_true_eq] at h2
    cases hx : ns[i]
    rw [hx] at h2
    simp only at h2
    rw [h2.1, h2.2]
  · omega
theorem child_none {ns : List DNode} {a : Int} {f : DFrame} (h : childV ns a f < 0) : (⟨a, f⟩ : DNode) ∉ ns := by
  unfold childV at h
  split at h
  · omega
  · rename_i hn
    intro hm
    have := List.findIdx?_eq_none_iff.1 hn _ hm
    simp [isChild] at this
theorem wf_app {ns : List DNode} (h : stacksOk ⟨ns⟩ = true) {a : Int} {f : DFrame} (h1 : -1 ≤ a) (h2 : a < ns.length) (hf : frameOk f = true) (hn : (⟨a, f⟩ : DNode) ∉ ns) : stacksOk ⟨ns ++ [⟨a, f⟩]⟩ = true := by
  unfold stacksOk
  simp only [List.length_append, List.length_cons, List.length_nil]
  refine range_snoc ?_ ?_
  · refine List.all_eq_true.2 fun k hk => ?_
    rw [List.mem_range] at hk
    have := List.all_eq_true.1 h k (List.mem_range.2 hk)
    unfold nodeOk at this ⊢
    simp only at this
    rw [List.getElem?_append_left hk, List.take_append_of_le_length (by omega)]
    exact this
  · unfold nodeOk
    rw [List.getElem?_append_right (Nat.le_refl _), Nat.sub_self]
    simp only [List.getElem?_cons_zero, Bool.and_eq_true]
    refine ⟨btw_mk h1 (by omega), hf, List.all_eq_true.2 fun y hy => ?_⟩
    rw [List.take_append_of_le_length (Nat.le_refl _), List.take_length] at hy
    simp only [ne_eq, decide_eq_true_eq]
    rintro rfl
    exact hn hy
theorem path_new {ns : List DNode} (h : stacksOk ⟨ns⟩ = true) {a : Int} {f : DFrame} (h2 : a < ns.length) (hw : stacksOk ⟨ns ++ [⟨a, f⟩]⟩ = true) : path (ns ++ [⟨a, f⟩]) ns.length = pathI ns a ++ [f] := by
  rw [path_step hw (x := ⟨a, f⟩) (by rw [List.getElem?_append_right (Nat.le_refl _), Nat.sub_self]; rfl), pathI_app h _ h2]
theorem intern_path : ∀ (l : List DFrame) (ns : List DNode) (a : Int), stacksOk ⟨ns⟩ = true → -1 ≤ a → a < ns.length → l.all frameOk = true →
    stacksOk ⟨(internL ns a l).1⟩ = true ∧ (∃ ms, (internL ns a l).1 = ns ++ ms) ∧ -1 ≤ (internL ns a l).2 ∧ (internL ns a l).2 < (internL ns a l).1.length ∧ pathI (internL ns a l).1 (internL ns a l).2 = pathI ns a ++ l ∧
      ∀ k, ns.length ≤ k → k < (internL ns a l).1.length → ∃ s, s <+: l ∧ path (internL ns a l).1 k = pathI ns a ++ s
  | [], ns, a, h, h1, h2, _ => by
    simp only [internL]
    exact ⟨h, ⟨[], by simp⟩, h1, h2, by simp, fun k hk hk2 => absurd hk2 (by omega)⟩
  | f :: fs, ns, a, h, h1, h2, ha => by
    simp only [List.all_cons, Bool.and_eq_true] at ha
    by_cases hc : childV ns a f < 0
    · have hw := wf_app h h1 h2 ha.1 (child_none hc)
      have hp := path_new h h2 hw
      obtain ⟨r1, ⟨ms, r2⟩, r3, r4, r5, r6⟩ := intern_path fs (ns ++ [⟨a, f⟩]) ns.length hw (by omega) (by simp; omega) ha.2
      rw [pathI_nat, hp] at r5 r6
      simp only [internL, if_pos hc]
      refine ⟨r1, ⟨⟨a, f⟩ :: ms, by rw [r2]; simp⟩, r3, r4, by rw [r5]; simp, fun k hk hk2 => ?_⟩
      by_cases hkn : k = ns.length
      · subst hkn
        refine ⟨[f], by simp, ?_⟩
        rw [r2, path_app hw _ (by simp), hp]
      · obtain ⟨s, h3, h4⟩ := r6 k (by simp; omega) hk2
        exact ⟨f :: s, by simpa using h3, by rw [h4]; simp⟩
    · have hx := child_some hc
      have hcl := child_lt (ns := ns) (p := a) (f := f)
      obtain ⟨r1, ⟨ms, r2⟩, r3, r4, r5, r6⟩ := intern_path fs ns (childV ns a f) h hcl.1 hcl.2 ha.2
      have hp : pathI ns (childV ns a f) = pathI ns a ++ [f] := by
        obtain ⟨j, hj⟩ : ∃ j : Nat, childV ns a f = (j : Int) := ⟨(childV ns a f).toNat, by omega⟩
        rw [hj] at hx ⊢
        rw [pathI_nat, path_step h (x := ⟨a, f⟩) (by simpa using hx)]
      rw [hp] at r5 r6
      simp only [internL, if_neg hc]
      refine ⟨r1, ⟨ms, r2⟩, r3, r4, by rw [r5]; simp, fun k hk hk2 => ?_⟩
      obtain ⟨s, h3, h4⟩ := r6 k hk hk2
      exact ⟨f :: s, by simpa using h3, by rw [h4]; simp⟩
/-- an ancestor -/
theorem path_anc {ns : List DNode} (h : stacksOk ⟨ns⟩ = true) : ∀ (k : Nat) (u v : List DFrame), k < ns.length → path ns k = u ++ v → u ≠ [] → ∃ j, j ≤ k ∧ path ns j = u := by
  intro k
  induction k using Nat.strongRecOn with
  | _ k ih =>
    intro u v hk he hu
    obtain ⟨x, hx⟩ : ∃ x, ns[k]? = some x := ⟨_, List.getElem?_eq_getElem hk⟩
    have hp := stacksOk_par h hx
    rcases List.eq_nil_or_concat v with rfl | ⟨v', y, rfl⟩
    · exact ⟨k, Nat.le_refl _, by simpa using he⟩
    · rw [path_step h hx, List.concat_eq_append, ← List.append_assoc] at he
      have h1 := (List.append_inj' he rfl).1
      by_cases hm : x.Parent < 0
      · rw [pathI_neg _ hm] at h1
        have := List.append_eq_nil_iff.1 h1.symm
        exact absurd this.1 hu
      · obtain ⟨j, hj⟩ : ∃ j : Nat, x.Parent = (j : Int) := ⟨x.Parent.toNat, by omega⟩
        rw [hj, pathI_nat] at h1
        obtain ⟨i, hi, h2⟩ := ih j (by omega) u v' (by omega) h1 hu
        exact ⟨i, by omega, h2⟩
theorem find_path {ns : List DNode} (h : stacksOk ⟨ns⟩ = true) : ∀ (l : List DFrame) (a : Int), -1 ≤ a → a < ns.length → 0 ≤ findL ns a l → pathI ns (findL ns a l) = pathI ns a ++ l
  | [], a, _, _, _ => by simp [findL]
  | f :: fs, a, h1, h2, h3 => by
    simp only [findL] at h3 ⊢
    by_cases hc : childV ns a f < 0
    · rw [if_pos hc] at h3; omega
    · rw [if_neg hc] at h3 ⊢
      have hx := child_some hc
      have hcl := child_lt (ns := ns) (p := a) (f := f)
      rw [find_path h fs _ hcl.1 hcl.2 h3]
      obtain ⟨j, hj⟩ : ∃ j : Nat, childV ns a f = (j : Int) := ⟨(childV ns a f).toNat, by omega⟩
      rw [hj] at hx ⊢
      rw [pathI_nat, path_step h (x := ⟨a, f⟩) (by simpa using hx)]
      simp
theorem find_conv {ns : List DNode} (h : stacksOk ⟨ns⟩ = true) : ∀ (l : List DFrame) (a : Int) (k : Nat), -1 ≤ a → a < ns.length → k < ns.length → path ns k = pathI ns a ++ l → l ≠ [] → findL ns a l = k
  | [], _, _, _, _, _, _, hl => absurd rfl hl
  | f :: fs, a, k, h1, h2, hk, he, _ => by
    obtain ⟨j, hj, hpj⟩ := path_anc h k (pathI ns a ++ [f]) fs hk (by rw [he]; simp) (by simp)
    obtain ⟨x, hx⟩ : ∃ x, ns[j]? = some x := ⟨_, List.getElem?_eq_getElem (by omega)⟩
    have hp := stacksOk_par h hx
    have hjl := (List.getElem?_eq_some_iff.1 hx).1
    have e1 := path_step h hx
    rw [hpj] at e1
    have e2 := List.append_inj' e1 rfl
    have e3 := pathI_inj h h1 h2 hp.1 (by omega) e2.1
    have e4 : x = ⟨a, f⟩ := by
      cases x
      simp only [List.cons.injEq, and_true] at e2 e3
      rw [e3, e2.2]
    subst e4
    have hc : ¬ childV ns a f < 0 := fun hc => child_none hc (List.mem_of_getElem? hx)
    have hcl := child_lt (ns := ns) (p := a) (f := f)
    obtain ⟨i, hi⟩ : ∃ j : Nat, childV ns a f = (j : Int) := ⟨(childV ns a f).toNat, by omega⟩
    have hxi := child_some hc
    rw [hi, Int.toNat_natCast] at hxi
    have e5 := path_step h hxi
    have e6 : i = j := path_inj h (by omega) hjl (by rw [e5, hpj])
    simp only [findL, if_neg hc]
    rw [hi, e6]
    cases fs with
    | nil =>
      simp only [findL]
      have := path_inj h hk hjl (by rw [he, hpj])
      omega
    | cons g gs => exact find_conv h (g :: gs) j k (by omega) (by omega) hk (by rw [he, pathI_nat, hpj]; simp) (by simp)
theorem pOk_parts {p : DProfile} (h : profileOk p = true) : stacksOk ⟨p.Stacks.Nodes⟩ = true ∧ p.Counts.length = p.Stacks.Nodes.length ∧ countsOk 1000000000000 p.Counts = true := by
  simp only [profileOk, Bool.and_eq_true, decide_eq_true_eq] at h
  exact ⟨h.1, h.2.1, h.2.2⟩
theorem countOf_at {p : DProfile} (h : profileOk p = true) {k : Nat} (hk : k < p.Stacks.Nodes.length) : countOf p (path p.Stacks.Nodes k) = (p.Counts[k]?).getD 0 := by
  have h1 := pOk_parts h
  have hf := find_conv h1.1 (path p.Stacks.Nodes k) (-1) k (by omega) (by omega) hk (by rw [pathI_neg _ (by omega)]; simp) (path_ne h1.1 hk)
  have hs : findStack p.Stacks (path p.Stacks.Nodes k) = k := by
    unfold findStack
    rw [if_pos h1.1]
    exact hf
  unfold countOf
  rw [hs, if_pos ⟨by omega, h⟩, Int.toNat_natCast]
theorem countOf_none {p : DProfile} {m : List DFrame} (h : ∀ k, k < p.Stacks.Nodes.length → path p.Stacks.Nodes k ≠ m) : countOf p m = 0 := by
  unfold countOf
  split
  · rename_i hc
    have h1 := pOk_parts hc.2
    have h2 := hc.1
    unfold findStack at h2
    rw [if_pos h1.1] at h2
    have h3 := find_path h1.1 m (-1) (by omega) (by omega) h2
    have h4 := findL_bd p.Stacks.Nodes (-1) m (by omega) (by omega)
    rw [pathI_neg _ (show (-1 : Int) < 0 by omega), List.nil_append] at h3
    obtain ⟨j, hj⟩ : ∃ j : Nat, findL p.Stacks.Nodes (-1) m = (j : Int) := ⟨(findL p.Stacks.Nodes (-1) m).toNat, by omega⟩
    rw [hj] at h3 h4
    rw [pathI_nat] at h3
    exact absurd h3 (h j (by omega))
  · rfl
theorem padTo_get {cs : List Int} {n k : Nat} (h : cs.length ≤ n) (hk : k < n) : (padTo cs n)[k]? = some ((cs[k]?).getD 0) := by
  unfold padTo
  by_cases h1 : k < cs.length
  · rw [List.getElem?_append_left h1, List.getElem?_eq_getElem h1]
    rfl
  · rw [List.getElem?_append_right (by omega), List.getElem?_replicate, if_pos (by omega), List.getElem?_eq_none (by omega)]
    rfl
theorem padTo_len' {cs : List Int} {n : Nat} (h : cs.length ≤ n) : (padTo cs n).length = n := by
  unfold padTo
  simp
  omega
/-- what a stack that has been added leaves -/
theorem addStack_spec {p q : DProfile} {l : List DFrame} {n : Int} (h : addStack p l n = (q, true)) :
    profileOk p = true ∧ profileOk q = true ∧ 0 ≤ n ∧ n ≤ 1000000000000 ∧ l ≠ [] ∧ l.all frameOk = true ∧ (∃ ms, q.Stacks.Nodes = p.Stacks.Nodes ++ ms) ∧
      (∃ id, id < q.Stacks.Nodes.length ∧ path q.Stacks.Nodes id = l ∧ q.Counts = (padTo p.Counts q.Stacks.Nodes.length).set id (((p.Counts[id]?).getD 0) + n)) ∧
      (∀ k, p.Stacks.Nodes.length ≤ k → k < q.Stacks.Nodes.length → path q.Stacks.Nodes k <+: l) := by
  unfold addStack at h
  split at h
  · rename_i h1
    simp only [Bool.and_eq_true, btw_iff] at h1
    obtain ⟨hp, hn1, hn2⟩ := h1
    split at h
    · rename_i h2
      split at h
      · rename_i h3
        simp only [Prod.mk.injEq, and_true] at h
        subst h
        have hpp := pOk_parts hp
        by_cases hg : (stacksOk p.Stacks && (!l.isEmpty && l.all frameOk)) = true
        · have hi : internStack p.Stacks l = (⟨(internL p.Stacks.Nodes (-1) l).1⟩, (internL p.Stacks.Nodes (-1) l).2) := by
            unfold internStack
            rw [if_pos hg]
          simp only [Bool.and_eq_true, Bool.not_eq_true', List.isEmpty_eq_false_iff] at hg
          obtain ⟨r1, ⟨ms, r2⟩, r3, r4, r5, r6⟩ := intern_path l p.Stacks.Nodes (-1) hpp.1 (by omega) (by omega) hg.2.2
          rw [hi] at h2 h3 ⊢
          simp only at h2 h3 ⊢
          rw [pathI_neg p.Stacks.Nodes (show (-1 : Int) < 0 by omega), List.nil_append] at r5
          obtain ⟨id, hid⟩ : ∃ j : Nat, (internL p.Stacks.Nodes (-1) l).2 = (j : Int) := ⟨(internL p.Stacks.Nodes (-1) l).2.toNat, by omega⟩
          rw [hid] at r4 r5 h3 ⊢
          rw [pathI_nat] at r5
          have hle : p.Counts.length ≤ (internL p.Stacks.Nodes (-1) l).1.length := by rw [r2, List.length_append]; omega
          refine ⟨hp, h3, hn1, hn2, hg.2.1, hg.2.2, ⟨ms, r2⟩, ⟨id, by simpa [addTo] using (by omega : id < (internL p.Stacks.Nodes (-1) l).1.length), r5, ?_⟩, fun k hk hk2 => ?_⟩
          · unfold addTo
            simp only [Int.toNat_natCast]
            rw [padTo_get hle (by omega)]
            rfl
          · obtain ⟨s, h4, h5⟩ := r6 k hk hk2
            rw [pathI_neg p.Stacks.Nodes (show (-1 : Int) < 0 by omega), List.nil_append] at h5
            show path (internL p.Stacks.Nodes (-1) l).1 k <+: l
            rw [h5]
            exact h4
        · exfalso
          unfold internStack at h2
          rw [if_neg hg] at h2
          simp at h2
      · simp at h
    · simp at h
  · simp at h
theorem addStack_count {p q : DProfile} {l : List DFrame} {n : Int} (h : addStack p l n = (q, true)) (m : List DFrame) : countOf q m = countOf p m + if m = l then n else 0 := by
  obtain ⟨hp, hq, h1, h2, h3, h4, ⟨ms, h5⟩, ⟨id, h6, h7, h8⟩, h9⟩ := addStack_spec h
  have hpp := pOk_parts hp
  have hqq := pOk_parts hq
  have hle : p.Counts.length ≤ q.Stacks.Nodes.length := by rw [h5, List.length_append]; omega
  have hcq : ∀ k, k < q.Stacks.Nodes.length → (q.Counts[k]?).getD 0 = (p.Counts[k]?).getD 0 + if k = id then n else 0 := by
    intro k hk
    rw [h8, List.getElem?_set]
    by_cases hki : id = k
    · subst hki
      rw [if_pos rfl, if_pos (by rw [padTo_len' hle]; exact hk), if_pos rfl]
      rfl
    · rw [if_neg hki, padTo_get hle hk, if_neg (fun e => hki e.symm)]
      simp
  by_cases hm : ∃ k, k < q.Stacks.Nodes.length ∧ path q.Stacks.Nodes k = m
  · obtain ⟨k, hk, rfl⟩ := hm
    rw [countOf_at hq hk, hcq k hk]
    have hkl : (k = id) ↔ path q.Stacks.Nodes k = l := by
      constructor
      · rintro rfl; exact h7
      · intro e; exact path_inj hqq.1 hk h6 (by rw [e, h7])
    have hcp : countOf p (path q.Stacks.Nodes k) = (p.Counts[k]?).getD 0 := by
      by_cases hk2 : k < p.Stacks.Nodes.length
      · rw [h5, path_app hpp.1 _ hk2, countOf_at hp hk2]
      · rw [List.getElem?_eq_none (by omega)]
        refine countOf_none fun j hj e => ?_
        rw [← path_app hpp.1 ms hj, ← h5] at e
        have := path_inj hqq.1 (by rw [h5, List.length_append]; omega) hk e
        omega
    rw [hcp]
    simp only [hkl]
  · rw [countOf_none (fun k hk e => hm ⟨k, hk, e⟩)]
    have hml : m ≠ l := fun e => hm ⟨id, h6, by rw [h7, e]⟩
    rw [if_neg hml, countOf_none fun k hk e => hm ⟨k, by rw [h5, List.length_append]; omega, by rw [h5, path_app hpp.1 _ hk, e]⟩]
    rfl
theorem sum_set : ∀ (cs : List Int) (k : Nat) (x y : Int), cs[k]? = some x → (cs.set k y).sum = cs.sum + (y - x)
  | [], k, x, y, h => by simp at h
  | c :: cs, 0, x, y, h => by
    simp only [List.getElem?_cons_zero, Option.some.injEq] at h
    subst h
    simp only [List.set_cons_zero, List.sum_cons]
    omega
  | c :: cs, k + 1, x, y, h => by
    simp only [List.getElem?_cons_succ] at h
    simp only [List.set_cons_succ, List.sum_cons, sum_set cs k x y h]
    omega
theorem sum_zeros : ∀ n : Nat, (List.replicate n (0 : Int)).sum = 0
  | 0 => rfl
  | n + 1 => by rw [List.replicate_succ, List.sum_cons, sum_zeros n]; rfl
theorem addStack_total {p q : DProfile} {l : List DFrame} {n : Int} (h : addStack p l n = (q, true)) : totalOf q = totalOf p + n := by
  obtain ⟨hp, hq, h1, h2, h3, h4, ⟨ms, h5⟩, ⟨id, h6, h7, h8⟩, h9⟩ := addStack_spec h
  have hpp := pOk_parts hp
  have hle : p.Counts.length ≤ q.Stacks.Nodes.length := by rw [h5, List.length_append]; omega
  unfold totalOf
  rw [if_pos hp, if_pos hq, h8, sum_set _ _ _ _ (padTo_get hle h6)]
  unfold padTo
  rw [List.sum_append, sum_zeros]
  omega
theorem stackAt_path {p : DProfile} (h : profileOk p = true) {k : Nat} (hk : k < p.Stacks.Nodes.length) : stackAt p.Stacks k = path p.Stacks.Nodes k := by
  have h1 := (pOk_parts h).1
  rw [stackAt_eq h1 hk, upL_fuel h1 k _ hk hk]
theorem path_ok {ns : List DNode} (h : stacksOk ⟨ns⟩ = true) {k : Nat} (hk : k < ns.length) : (path ns k).all frameOk = true := upL_all h _ _ _ (by simp only; omega) rfl
/-- the entries of a profile: its paths with a count -/
theorem ents_iff {p : DProfile} (h : profileOk p = true) (e : DEntry) : e ∈ entriesOf p ↔ ∃ k, k < p.Stacks.Nodes.length ∧ e.Stack = fmtF (path p.Stacks.Nodes k) ∧ e.Count = countOf p (path p.Stacks.Nodes k) ∧ e.Count ≠ 0 := by
  have h1 := pOk_parts h
  unfold entriesOf
  rw [if_pos h, (foldl_insE_perm _ []).mem_iff, List.nil_append]
  unfold entTake
  rw [List.mem_filterMap]
  constructor
  · rintro ⟨k, hk, he⟩
    rw [List.mem_range] at hk
    refine ⟨k, by omega, ?_⟩
    unfold entAt at he
    rw [List.getElem?_eq_getElem hk] at he
    simp only at he
    split at he
    · cases he
    · rename_i hc
      simp only [Option.some.injEq] at he
      subst he
      refine ⟨by rw [stackAt_path h (by omega)], ?_, hc⟩
      rw [countOf_at h (by omega), List.getElem?_eq_getElem hk]
      rfl
  · rintro ⟨k, hk, h2, h3, h4⟩
    refine ⟨k, List.mem_range.2 (by omega), ?_⟩
    have hk2 : k < p.Counts.length := by omega
    rw [countOf_at h hk, List.getElem?_eq_getElem hk2] at h3
    simp only [Option.getD_some] at h3
    unfold entAt
    rw [List.getElem?_eq_getElem hk2]
    simp only
    rw [if_neg (by rw [← h3]; exact h4)]
    cases e
    simp only at h2 h3
    rw [h2, h3, stackAt_path h hk]
theorem countOf_pos {p : DProfile} {m : List DFrame} (h : countOf p m ≠ 0) : profileOk p = true ∧ ∃ k, k < p.Stacks.Nodes.length ∧ path p.Stacks.Nodes k = m := by
  refine ⟨?_, ?_⟩
  · apply Decidable.byContradiction
    intro hp
    apply h
    unfold countOf
    rw [if_neg (fun hc => hp hc.2)]
  · apply Decidable.byContradiction
    intro hn
    exact h (countOf_none fun k hk e => hn ⟨k, hk, e⟩)
theorem ents_le {p : DProfile} : (entriesOf p).Pairwise leE := by
  unfold entriesOf
  split
  · exact foldl_insE_sorted _ [] List.Pairwise.nil
  · exact List.Pairwise.nil
theorem ents_nodup2 {p : DProfile} (h : profileOk p = true) : ((entriesOf p).map fun e => bl e.Stack).Nodup := by
  have h1 := ents_nodup h p.Counts.length (Nat.le_refl _)
  unfold entriesOf
  rw [if_pos h]
  have h2 := (foldl_insE_perm (entTake p p.Counts.length) []).map (fun e => bl e.Stack)
  rw [List.nil_append] at h2
  exact h2.nodup_iff.2 h1
/-- profiles that count alike have the same entries -/
theorem nodup_of_map {α β : Type} {f : α → β} {l : List α} (h : (l.map f).Nodup) : l.Nodup := by
  induction l with
  | nil => exact List.nodup_nil
  | cons a l ih =>
    simp only [List.map_cons, List.nodup_cons] at h ⊢
    exact ⟨fun hm => h.1 (List.mem_map_of_mem hm), ih h.2⟩
theorem perm_of_mem {α : Type} : ∀ {l1 l2 : List α}, l1.Nodup → l2.Nodup → (∀ x, x ∈ l1 ↔ x ∈ l2) → l1.Perm l2
  | [], [], _, _, _ => List.Perm.refl _
  | [], b :: l2, _, _, h => absurd ((h b).2 List.mem_cons_self) List.not_mem_nil
  | a :: l1, l2, h1, h2, h => by
    rw [List.nodup_cons] at h1
    obtain ⟨s, t, rfl⟩ := List.append_of_mem ((h a).1 List.mem_cons_self)
    have h3 : (s ++ a :: t).Perm (a :: (s ++ t)) := List.perm_middle
    have h4 := h3.nodup_iff.1 h2
    rw [List.nodup_cons] at h4
    refine (List.Perm.cons a (perm_of_mem h1.2 h4.2 fun x => ?_)).trans h3.symm
    have h5 := h x
    constructor
    · intro hx
      have h6 := h3.mem_iff.1 (h5.1 (List.mem_cons_of_mem _ hx))
      rcases List.mem_cons.1 h6 with rfl | h6
      · exact absurd hx h1.1
      · exact h6
    · intro hx
      have h6 := h5.2 (h3.mem_iff.2 (List.mem_cons_of_mem _ hx))
      rcases List.mem_cons.1 h6 with rfl | h6
      · exact absurd hx h4.1
      · exact h6
theorem ents_ext {p q : DProfile} (hp : profileOk p = true) (hq : profileOk q = true) (h : ∀ m, countOf p m = countOf q m) : entriesOf p = entriesOf q := by
  refine sortedE_eq ents_le ents_le (perm_of_mem (nodup_of_map (ents_nodup2 hp)) (nodup_of_map (ents_nodup2 hq)) fun e => ?_) (ents_nodup2 hp)
  rw [ents_iff hp, ents_iff hq]
  constructor
  · rintro ⟨k, h1, h2, h3, h4⟩
    obtain ⟨_, j, h5, h6⟩ := countOf_pos (p := q) (m := path p.Stacks.Nodes k) (by rw [← h, ← h3]; exact h4)
    exact ⟨j, h5, by rw [h6]; exact h2, by rw [h6, ← h]; exact h3, h4⟩
  · rintro ⟨k, h1, h2, h3, h4⟩
    obtain ⟨_, j, h5, h6⟩ := countOf_pos (p := p) (m := path q.Stacks.Nodes k) (by rw [h, ← h3]; exact h4)
    exact ⟨j, h5, by rw [h6]; exact h2, by rw [h6, h]; exact h3, h4⟩
theorem sum_map_le {α : Type} (f : α → Nat) (c : Nat) (l : List α) (h : ∀ a ∈ l, f a ≤ c) : (l.map f).sum ≤ l.length * c := by
  induction l with
  | nil => simp
  | cons a l ih =>
    have h1 := h a List.mem_cons_self
    have h2 := ih fun x hx => h x (List.mem_cons_of_mem _ hx)
    simp only [List.map_cons, List.sum_cons, List.length_cons]
    rw [Nat.add_mul]
    omega
theorem len_of_mem {α : Type} [DecidableEq α] : ∀ {l1 l2 : List α}, l1.Nodup → (∀ x ∈ l1, x ∈ l2) → l1.length ≤ l2.length
  | [], _, _, _ => Nat.zero_le _
  | a :: l1, l2, h1, h => by
    rw [List.nodup_cons] at h1
    have ha := h a List.mem_cons_self
    have h2 := len_of_mem (l1 := l1) (l2 := l2.erase a) h1.2 fun x hx => (List.mem_erase_of_ne (by rintro rfl; exact h1.1 hx)).2 (h x (List.mem_cons_of_mem _ hx))
    rw [List.length_erase_of_mem ha] at h2
    have := List.length_pos_of_mem ha
    simp only [List.length_cons]
    omega
def paths (ns : List DNode) : List (List DFrame) := (List.range ns.length).map (path ns)
theorem paths_len (ns : List DNode) : (paths ns).length = ns.length := by simp [paths]
theorem mem_paths {ns : List DNode} {m : List DFrame} : m ∈ paths ns ↔ ∃ k, k < ns.length ∧ path ns k = m := by simp [paths]
theorem paths_nodup {ns : List DNode} (h : stacksOk ⟨ns⟩ = true) : (paths ns).Nodup := by
  unfold paths
  unfold List.Nodup
  rw [List.pairwise_map]
  refine (List.pairwise_lt_range (n := ns.length)).imp_of_mem fun {a b} ha hb hab he => ?_
  rw [List.mem_range] at ha hb
  have := path_inj h ha hb he
  omega
theorem stepP_some {p q : DProfile} {e : DEntry} (h : stepP p e = some q) : (parseR e.Stack).2 = true ∧ addStack p (parseR e.Stack).1 e.Count = (q, true) := by
  unfold stepP at h
  split at h
  · rename_i hc
    simp only [Bool.and_eq_true] at hc
    simp only [Option.some.injEq] at h
    refine ⟨hc.1, ?_⟩
    rw [← h]
    exact Prod.ext rfl hc.2
  · cases h
theorem profL_paths : ∀ {l : List DEntry} {p q : DProfile}, profileOk p = true → profL l p = some q → profileOk q = true ∧ ∀ m ∈ paths q.Stacks.Nodes, m ∈ paths p.Stacks.Nodes ∨ ∃ e ∈ l, m <+: (parseR e.Stack).1
  | [], p, q, hp, h => by
    simp only [profL, Option.some.injEq] at h
    subst h
    exact ⟨hp, fun m hm => .inl hm⟩
  | e :: l, p, q, hp, h => by
    rw [profL] at h
    split at h
    · rename_i r hr
      obtain ⟨h1, h2⟩ := stepP_some hr
      obtain ⟨_, hrr, _, _, _, _, ⟨ms, h3⟩, _, h4⟩ := addStack_spec h2
      obtain ⟨hq, h5⟩ := profL_paths hrr h
      refine ⟨hq, fun m hm => ?_⟩
      rcases h5 m hm with h6 | ⟨e', he', h6⟩
      · obtain ⟨k, hk, rfl⟩ := mem_paths.1 h6
        by_cases hkp : k < p.Stacks.Nodes.length
        · exact .inl (mem_paths.2 ⟨k, hkp, by rw [h3, path_app (pOk_parts hp).1 _ hkp]⟩)
        · exact .inr ⟨e, List.mem_cons_self, h4 k (by omega) hk⟩
      · exact .inr ⟨e', List.mem_cons_of_mem _ he', h6⟩
    · cases h
theorem ents_prefix {p : DProfile} {e : DEntry} {m : List DFrame} (he : e ∈ entriesOf p) (hm : m <+: (parseR e.Stack).1) (hn : m ≠ []) : m ∈ paths p.Stacks.Nodes := by
  by_cases hp : profileOk p = true
  · obtain ⟨k, hk, h2, _⟩ := (ents_iff hp e).1 he
    have h3 : (parseR e.Stack).1 = path p.Stacks.Nodes k ∨ (parseR e.Stack).1 = [] := by
      unfold parseR
      split
      · rename_i fs hf
        rw [h2] at hf
        exact .inl (parse_fmt hf)
      · exact .inr rfl
    rcases h3 with h3 | h3
    · rw [h3] at hm
      obtain ⟨v, hv⟩ := hm
      obtain ⟨j, hj, hpj⟩ := path_anc (pOk_parts hp).1 k m v hk hv.symm hn
      exact mem_paths.2 ⟨j, by omega, hpj⟩
    · rw [h3] at hm
      exact absurd (List.prefix_nil.1 hm) hn
  · unfold entriesOf at he
    rw [if_neg hp] at he
    cases he
/-- a profile of entries of profiles has no more nodes than these -/
theorem profR_nodes (p q : DProfile) {l : List DEntry} (hl : ∀ e ∈ l, e ∈ entriesOf p ∨ e ∈ entriesOf q) : (profR l).1.Stacks.Nodes.length ≤ p.Stacks.Nodes.length + q.Stacks.Nodes.length := by
  cases hr : profL l emptyP with
  | none =>
    rw [profR_bad hr]
    exact Nat.zero_le _
  | some r =>
    rw [profR_yes hr]
    obtain ⟨hok, hp⟩ := profL_paths emptyP_ok hr
    have h1 := paths_nodup (pOk_parts hok).1
    have h2 := len_of_mem (l2 := paths p.Stacks.Nodes ++ paths q.Stacks.Nodes) h1 fun m hm => ?_
    · rw [List.length_append, paths_len, paths_len, paths_len] at h2
      exact h2
    · have hn : m ≠ [] := by
        obtain ⟨k, hk, rfl⟩ := mem_paths.1 hm
        exact path_ne (pOk_parts hok).1 hk
      rcases hp m hm with h3 | ⟨e, he, h3⟩
      · obtain ⟨k, hk, _⟩ := mem_paths.1 h3
        exact absurd hk (Nat.not_lt_zero _)
      · rw [List.mem_append]
        rcases hl e he with h4 | h4
        · exact .inl (ents_prefix h4 h3 hn)
        · exact .inr (ents_prefix h4 h3 hn)
theorem mergeP_nodes (p q : DProfile) : (mergeP p q).1.Stacks.Nodes.length ≤ p.Stacks.Nodes.length + q.Stacks.Nodes.length := by
  unfold mergeP
  split
  · exact profR_nodes p q fun e he => List.mem_append.1 he
  · exact Nat.zero_le _
end Go.Proofs.YtcomafmiclkmhaaGreatDoor
namespace Go.Proofs.YtcomafmiclkmhaaGreatDoor
open Go.RowKit
theorem frameB_no59 {f : DFrame} (hf : frameOk f = true) : (59 : UInt8) ∉ frameB f := fun k => by
  unfold frameB at k
  rcases List.mem_append.1 k with k | k
  · have := frameOk_name hf _ k
    simp at this
  · rcases List.mem_cons.1 k with k | k
    · exact absurd k (by decide)
    · exact no59 hf k
theorem valU_dec {n : Nat} (hn : n < 100) : valU (Lib.decDigits n) = n := by
  by_cases h1 : n < 10
  · rw [Lib.decDigits_one h1]
    simp only [valU, List.foldl_cons, List.foldl_nil, UInt8.toNat_ofNat']
    omega
  · rw [Lib.decDigits_two (by omega) hn]
    simp only [valU, List.foldl_cons, List.foldl_nil, UInt8.toNat_ofNat']
    omega
theorem parseU_back {n : Nat} (hn : n < 100) : parseU (Lib.decDigits n) = some n := by
  have h := parseU_ok (l := Lib.decDigits n) (by
    by_cases h1 : n < 10
    · rw [Lib.decDigits_one h1]; simp
    · rw [Lib.decDigits_two (by omega) hn]; simp) (List.all_eq_true.2 fun b hb => isDig_iff.2 (dec_bytes hn b hb)) (by rw [valU_dec hn]; omega) (by rw [valU_dec hn])
  rw [valU_dec hn] at h
  exact h
theorem part_back {f : DFrame} (hf : frameOk f = true) : parsePart (frameB f) = some f := by
  have n1 : (58 : UInt8) ∉ f.Name.data.toList := fun k => by have := frameOk_name hf _ k; simp at this
  have a := frameOk_line hf
  have n2 : (58 : UInt8) ∉ Lib.decDigits f.Line.toNat := fun k => by
    have := dec_bytes (by omega) _ k
    simp at this
  unfold parsePart frameB
  rw [cutA_at n1, cutA_no n2, List.nil_append, List.nil_append]
  simp only
  rw [parseU_back (by omega)]
  simp only [Option.map_some, Option.some.injEq]
  cases f
  simp only at a ⊢
  congr 1
  omega
theorem parseL_back : ∀ {l acc : List DFrame}, l.all frameOk = true → l ≠ [] → parseL (cutA 59 [] (joinF l)) acc = some (acc ++ l)
  | [], _, _, h => absurd rfl h
  | [f], acc, h, _ => by
    simp only [List.all_cons, List.all_nil, Bool.and_true] at h
    rw [joinF_one, cutA_no (frameB_no59 h), List.nil_append, parseL_some (part_back h), parseL]
  | f :: g :: l, acc, h, _ => by
    rw [List.all_cons, Bool.and_eq_true] at h
    rw [joinF_cons2, cutA_at (frameB_no59 h.1), List.nil_append, parseL_some (part_back h.1), parseL_back h.2 (by simp)]
    simp
theorem joinF_pos {l : List DFrame} (h : l ≠ []) : joinF l ≠ [] := by
  cases l with
  | nil => exact absurd rfl h
  | cons f l =>
    cases l with
    | nil => rw [joinF_one]; simp [frameB]
    | cons g l => rw [joinF_cons2]; simp
theorem parse_back {l : List DFrame} (h : l.all frameOk = true) (hn : l ≠ []) : parseF (fmtF l) = some l := by
  have hf : fmtF l = ⟨(joinF l).toArray⟩ := by unfold fmtF; rw [if_pos h]
  unfold parseF
  rw [hf]
  simp only
  rw [parseL_back h hn, List.nil_append]
  simp only
  rw [if_neg]
  rintro (h1 | h1)
  · have := joinF_pos hn
    have h2 : (joinF l).length = 0 := by simpa [ByteArray.size] using h1
    exact this (List.length_eq_zero_iff.1 h2)
  · exact h1 hf
theorem dec_last {n : Nat} (hn : n < 100) : ∃ b, (Lib.decDigits n).getLast? = some b ∧ b ≠ 59 := by
  have hb : ∃ b, (Lib.decDigits n).getLast? = some b ∧ b ∈ Lib.decDigits n := by
    cases h : Lib.decDigits n with
    | nil =>
      exfalso
      by_cases h1 : n < 10
      · rw [Lib.decDigits_one h1] at h; cases h
      · rw [Lib.decDigits_two (by omega) hn] at h; cases h
    | cons a l => exact ⟨_, List.getLast?_eq_some_getLast (by simp), List.getLast_mem _⟩
  obtain ⟨b, h1, h2⟩ := hb
  refine ⟨b, h1, ?_⟩
  rintro rfl
  have := dec_bytes hn _ h2
  simp at this
theorem frameB_last {f : DFrame} (hf : frameOk f = true) (x : List UInt8) : ∃ b, (x ++ frameB f).getLast? = some b ∧ b ≠ 59 := by
  have a := frameOk_line hf
  obtain ⟨b, h1, h2⟩ := dec_last (n := f.Line.toNat) (by omega)
  refine ⟨b, ?_, h2⟩
  unfold frameB
  rw [← List.append_assoc, List.append_cons, List.getLast?_append, h1]
  rfl
theorem joinF_last : ∀ {l : List DFrame} (x : List UInt8), l.all frameOk = true → l ≠ [] → ∃ b, (x ++ joinF l).getLast? = some b ∧ b ≠ 59
  | [], _, _, h => absurd rfl h
  | [f], x, h, _ => by
    simp only [List.all_cons, List.all_nil, Bool.and_true] at h
    rw [joinF_one]
    exact frameB_last h x
  | f :: g :: l, x, h, _ => by
    rw [List.all_cons, Bool.and_eq_true] at h
    rw [joinF_cons2, ← List.append_assoc, List.append_cons]
    exact joinF_last _ h.2 (by simp)
theorem parse_more {l : List DFrame} (h : l.all frameOk = true) : parseF (fmtF l ++ ⟨#[59]⟩) = none := by
  cases hp : parseF (fmtF l ++ ⟨#[59]⟩) with
  | none => rfl
  | some fs =>
    exfalso
    obtain ⟨h1, h2⟩ := parseF_fmt hp
    have h3 : fs.all frameOk = true ∧ fs ≠ [] := by
      have h8 : (fmtF fs).size ≠ 0 := by rw [h1]; exact h2
      unfold fmtF at h8
      split at h8
      · rename_i k
        refine ⟨k, fun e => ?_⟩
        subst e
        exact h8 rfl
      · exact absurd rfl h8
    obtain ⟨b, h4, h5⟩ := joinF_last [] h3.1 h3.2
    have h6 := congrArg (fun s : ByteArray => s.data.toList.getLast?) h1
    simp only [ByteArray.data_append, Array.toList_append] at h6
    have h7 : (fmtF fs).data.toList = joinF fs := by unfold fmtF; rw [if_pos h3.1]
    rw [h7, List.getLast?_append] at h6
    rw [List.nil_append] at h4
    rw [h4] at h6
    simp at h6
    exact h5 h6
theorem parse_none : parseF ⟨#[]⟩ = none := by
  unfold parseF
  split
  · rw [if_pos (.inl rfl)]
  · rfl
theorem fmt_main7 : fmtF [⟨⟨#[109, 97, 105, 110]⟩, 7⟩] = ⟨#[109, 97, 105, 110, 58, 55]⟩ := by
  have h : frameOk ⟨⟨#[109, 97, 105, 110]⟩, 7⟩ = true := by decide
  unfold fmtF
  rw [if_pos (by simp [h]), joinF_one]
  unfold frameB
  rw [show (7 : Int).toNat = 7 from rfl, Lib.decDigits_one (by decide)]
  rfl
end Go.Proofs.YtcomafmiclkmhaaGreatDoor
namespace Go.Proofs.YtcomafmiclkmhaaGreatDoor
open Go.RowKit
theorem countsOk_iff : ∀ {L : Int} {cs : List Int}, 0 ≤ L → (countsOk L cs = true ↔ (∀ c ∈ cs, 0 ≤ c) ∧ cs.sum ≤ L)
  | L, [], hL => by simp [countsOk, hL]
  | L, c :: cs, hL => by
    simp only [countsOk, Bool.and_eq_true, btw_iff, List.sum_cons, List.mem_cons, forall_eq_or_imp]
    constructor
    · rintro ⟨⟨h1, h2⟩, h3⟩
      have := (countsOk_iff (by omega)).1 h3
      exact ⟨⟨h1, this.1⟩, by omega⟩
    · rintro ⟨⟨h1, h2⟩, h3⟩
      have hs : 0 ≤ cs.sum := by
        clear h3
        induction cs with
        | nil => simp
        | cons a cs ih =>
          have := ih fun c hc => h2 c (List.mem_cons_of_mem _ hc)
          have := h2 a List.mem_cons_self
          simp only [List.sum_cons]
          omega
      exact ⟨⟨h1, by omega⟩, (countsOk_iff (by omega)).2 ⟨h2, by omega⟩⟩
theorem addStack_yes {p : DProfile} {l : List DFrame} {n : Int} (hp : profileOk p = true) (hn : 0 ≤ n) (hl : l ≠ []) (ha : l.all frameOk = true) (ht : totalOf p + n ≤ 1000000000000) : ∃ q, addStack p l n = (q, true) := by
  have hpp := pOk_parts hp
  have htp : 0 ≤ totalOf p ∧ totalOf p = p.Counts.sum := by
    have := countsOk_take hpp.2.2 (by omega) p.Counts.length
    rw [List.take_length] at this
    unfold totalOf
    rw [if_pos hp]
    exact ⟨this.1, rfl⟩
  have hi : internStack p.Stacks l = (⟨(internL p.Stacks.Nodes (-1) l).1⟩, (internL p.Stacks.Nodes (-1) l).2) := by
    unfold internStack
    rw [if_pos]
    simp only [Bool.and_eq_true, Bool.not_eq_true', List.isEmpty_eq_false_iff]
    exact ⟨hpp.1, hl, ha⟩
  obtain ⟨r1, ⟨ms, r2⟩, r3, r4, r5, r6⟩ := intern_path l p.Stacks.Nodes (-1) hpp.1 (by omega) (by omega) ha
  rw [pathI_neg p.Stacks.Nodes (show (-1 : Int) < 0 by omega), List.nil_append] at r5
  have h0 : 0 ≤ (internL p.Stacks.Nodes (-1) l).2 := by
    apply Decidable.byContradiction
    intro hc
    rw [pathI_neg _ (by omega)] at r5
    exact hl r5.symm
  have hle : p.Counts.length ≤ (internL p.Stacks.Nodes (-1) l).1.length := by rw [r2, List.length_append]; omega
  have hnn : ∀ c ∈ p.Counts, 0 ≤ c := ((countsOk_iff (by omega)).1 hpp.2.2).1
  have hg := padTo_get (cs := p.Counts) hle (show (internL p.Stacks.Nodes (-1) l).2.toNat < _ by omega)
  have hgn : 0 ≤ (p.Counts[(internL p.Stacks.Nodes (-1) l).2.toNat]?).getD 0 := by
    cases hc : p.Counts[(internL p.Stacks.Nodes (-1) l).2.toNat]? with
    | none => exact Int.le_refl _
    | some c => exact hnn c (List.mem_of_getElem? hc)
  refine ⟨addTo p (internStack p.Stacks l).1 (internStack p.Stacks l).2.toNat n, ?_⟩
  unfold addStack
  rw [if_pos (by rw [hp, btw_mk hn (by omega)]; rfl), hi, if_pos h0, if_pos]
  unfold addTo profileOk
  simp only [Bool.and_eq_true, decide_eq_true_eq, List.length_set]
  rw [padTo_len' hle]
  refine ⟨r1, rfl, (countsOk_iff (by omega)).2 ⟨?_, ?_⟩⟩
  · rw [hg]
    intro c hc
    rcases List.mem_or_eq_of_mem_set hc with h1 | h1
    · unfold padTo at h1
      rcases List.mem_append.1 h1 with h1 | h1
      · exact hnn c h1
      · rw [(List.mem_replicate.1 h1).2]
        exact Int.le_refl _
    · rw [h1]
      simp only [Option.getD_some]
      omega
  · rw [hg, sum_set _ _ _ _ hg]
    unfold padTo
    rw [List.sum_append, sum_zeros]
    simp only [Option.getD_some]
    omega
theorem total_bd {p : DProfile} (h : profileOk p = true) : 0 ≤ totalOf p ∧ totalOf p ≤ 1000000000000 := by
  have hpp := pOk_parts h
  have := countsOk_take hpp.2.2 (by omega) p.Counts.length
  rw [List.take_length] at this
  unfold totalOf
  rw [if_pos h]
  exact this
theorem countOf_nonneg {p : DProfile} (m : List DFrame) : 0 ≤ countOf p m := by
  unfold countOf
  split
  · rename_i hc
    have hnn : ∀ c ∈ p.Counts, 0 ≤ c := ((countsOk_iff (by omega)).1 (pOk_parts hc.2).2.2).1
    cases hx : p.Counts[(findStack p.Stacks m).toNat]? with
    | none => exact Int.le_refl _
    | some c => exact hnn c (List.mem_of_getElem? hx)
  · exact Int.le_refl _
/-- counts of a text among entries -/
def cntT (l : List DEntry) (s : ByteArray) : Int := (l.map fun e => if e.Stack = s then e.Count else 0).sum
def sumE (l : List DEntry) : Int := (l.map DEntry.Count).sum
/-- an entry of a stack that can be written -/
def entOk (e : DEntry) : Prop := ∃ s : List DFrame, s ≠ [] ∧ s.all frameOk = true ∧ e.Stack = fmtF s ∧ 0 ≤ e.Count
theorem stack_ok {p : DProfile} {m : List DFrame} (h : countOf p m ≠ 0) : m ≠ [] ∧ m.all frameOk = true := by
  obtain ⟨hp, k, hk, rfl⟩ := countOf_pos h
  exact ⟨path_ne (pOk_parts hp).1 hk, path_ok (pOk_parts hp).1 hk⟩
theorem profL_yes : ∀ {l : List DEntry} {p : DProfile}, profileOk p = true → (∀ e ∈ l, entOk e) → totalOf p + sumE l ≤ 1000000000000 →
    ∃ q, profL l p = some q ∧ profileOk q = true ∧ totalOf q = totalOf p + sumE l ∧ ∀ m, m ≠ [] → m.all frameOk = true → countOf q m = countOf p m + cntT l (fmtF m)
  | [], p, hp, _, _ => ⟨p, rfl, hp, by simp [sumE], fun m _ _ => by simp [cntT]⟩
  | e :: l, p, hp, he, ht => by
    obtain ⟨s, h1, h2, h3, h4⟩ := he e List.mem_cons_self
    have hsl : 0 ≤ sumE l := by
      have : ∀ e ∈ l, 0 ≤ e.Count := fun e' h' => by obtain ⟨_, _, _, _, h5⟩ := he e' (List.mem_cons_of_mem _ h'); exact h5
      clear ht he
      induction l with
      | nil => simp [sumE]
      | cons a l ih =>
        have := ih fun c hc => this c (List.mem_cons_of_mem _ hc)
        have := this
        have h6 := ‹∀ e ∈ a :: l, 0 ≤ e.Count› a List.mem_cons_self
        simp only [sumE, List.map_cons, List.sum_cons] at this ⊢
        omega
    have hse : sumE (e :: l) = e.Count + sumE l := by simp [sumE]
    obtain ⟨r, hr⟩ := addStack_yes hp h4 h1 h2 (by omega)
    have hpr : (parseR e.Stack) = (s, true) := by
      unfold parseR
      rw [h3, parse_back h2 h1]
    have hst : stepP p e = some r := by
      unfold stepP
      rw [hpr]
      simp only
      rw [hr]
      rfl
    have hrr := (addStack_spec hr).2.1
    have htr := addStack_total hr
    obtain ⟨q, hq1, hq2, hq3, hq4⟩ := profL_yes hrr (fun e' h' => he e' (List.mem_cons_of_mem _ h')) (by omega)
    refine ⟨q, by rw [profL_some hst]; exact hq1, hq2, by omega, fun m hm hm2 => ?_⟩
    rw [hq4 m hm hm2, addStack_count hr m]
    have hmm : (m = s) ↔ e.Stack = fmtF m := by
      rw [h3]
      constructor
      · rintro rfl; rfl
      · intro hh; exact (fmtF_inj h2 hm2 h1 hm hh).symm
    simp only [cntT, List.map_cons, List.sum_cons, hmm]
    omega
theorem ents_entOk {p : DProfile} {e : DEntry} (he : e ∈ entriesOf p) : entOk e := by
  by_cases hp : profileOk p = true
  · obtain ⟨k, hk, h1, h2, h3⟩ := (ents_iff hp e).1 he
    exact ⟨path p.Stacks.Nodes k, path_ne (pOk_parts hp).1 hk, path_ok (pOk_parts hp).1 hk, h1, by rw [h2]; exact countOf_nonneg _⟩
  · unfold entriesOf at he
    rw [if_neg hp] at he
    cases he
theorem sum_perm {l1 l2 : List Int} (h : l1.Perm l2) : l1.sum = l2.sum := by
  induction h with
  | nil => rfl
  | cons x _ ih => simp only [List.sum_cons, ih]
  | swap x y l => simp only [List.sum_cons]; omega
  | trans _ _ h1 h2 => rw [h1, h2]
theorem entTake_sum (p : DProfile) : ∀ n, n ≤ p.Counts.length → ((entTake p n).map DEntry.Count).sum = (p.Counts.take n).sum
  | 0, _ => by simp [entTake]
  | n + 1, h => by
    obtain ⟨c, hc⟩ : ∃ c, p.Counts[n]? = some c := ⟨_, List.getElem?_eq_getElem (by omega)⟩
    have ih := entTake_sum p n (by omega)
    rw [List.take_add_one, hc, List.sum_append]
    by_cases h0 : c = 0
    · subst h0
      rw [entTake_zero hc, ih]
      simp
    · rw [entTake_snoc hc h0, List.map_append, List.sum_append, ih]
      simp
theorem sumE_ents {p : DProfile} (h : profileOk p = true) : sumE (entriesOf p) = totalOf p := by
  unfold sumE entriesOf totalOf
  rw [if_pos h, if_pos h, sum_perm ((foldl_insE_perm (entTake p p.Counts.length) []).map DEntry.Count), List.nil_append, entTake_sum p _ (Nat.le_refl _), List.take_length]
theorem cntT_one {l : List DEntry} {e : DEntry} (hn : (l.map fun e => bl e.Stack).Nodup) (he : e ∈ l) : cntT l e.Stack = e.Count := by
  induction l with
  | nil => cases he
  | cons a l ih =>
    rw [List.map_cons, List.nodup_cons] at hn
    simp only [cntT, List.map_cons, List.sum_cons]
    have hz : ∀ s : ByteArray, (∀ x ∈ l, x.Stack ≠ s) → (l.map fun e => if e.Stack = s then e.Count else 0).sum = 0 := by
      intro s hs
      clear ih hn he
      induction l with
      | nil => rfl
      | cons b l ih2 =>
        simp only [List.map_cons, List.sum_cons]
        rw [if_neg (hs b List.mem_cons_self), ih2 fun x hx => hs x (List.mem_cons_of_mem _ hx)]
        rfl
    rcases List.mem_cons.1 he with rfl | he
    · rw [if_pos rfl, hz _ fun x hx e' => hn.1 (by rw [← e']; exact List.mem_map_of_mem (f := fun e => bl e.Stack) hx)]
      omega
    · rw [if_neg fun e' => hn.1 (by rw [e']; exact List.mem_map_of_mem (f := fun e => bl e.Stack) he)]
      have := ih hn.2 he
      unfold cntT at this
      omega
theorem cntT_none {l : List DEntry} {s : ByteArray} (h : ∀ e ∈ l, e.Stack ≠ s) : cntT l s = 0 := by
  unfold cntT
  induction l with
  | nil => rfl
  | cons b l ih =>
    simp only [List.map_cons, List.sum_cons]
    rw [if_neg (h b List.mem_cons_self), ih fun x hx => h x (List.mem_cons_of_mem _ hx)]
    rfl
theorem cntT_ents {p : DProfile} (h : profileOk p = true) {m : List DFrame} (hm : m ≠ []) (ha : m.all frameOk = true) : cntT (entriesOf p) (fmtF m) = countOf p m := by
  by_cases hc : countOf p m = 0
  · rw [hc]
    refine cntT_none fun e he hs => ?_
    obtain ⟨k, hk, h1, h2, h3⟩ := (ents_iff h e).1 he
    have := fmtF_inj (path_ok (pOk_parts h).1 hk) ha (path_ne (pOk_parts h).1 hk) hm (by rw [← h1, hs])
    rw [this, hc] at h2
    exact h3 h2
  · obtain ⟨_, k, hk, hpk⟩ := countOf_pos hc
    have he : (⟨fmtF m, countOf p m⟩ : DEntry) ∈ entriesOf p := (ents_iff h _).2 ⟨k, hk, by rw [hpk], by rw [hpk], hc⟩
    exact cntT_one (ents_nodup2 h) he
theorem cntT_app (a b : List DEntry) (s : ByteArray) : cntT (a ++ b) s = cntT a s + cntT b s := by simp [cntT]
theorem sumE_app (a b : List DEntry) : sumE (a ++ b) = sumE a + sumE b := by simp [sumE]
theorem countOf_empty (m : List DFrame) : countOf emptyP m = 0 := countOf_none fun _ hk => absurd hk (Nat.not_lt_zero _)
theorem total_empty : totalOf emptyP = 0 := by
  unfold totalOf
  rw [if_pos emptyP_ok]
  rfl
/-- a profile made of entries -/
theorem profR_yes2 {l : List DEntry} (he : ∀ e ∈ l, entOk e) (ht : sumE l ≤ 1000000000000) :
    (profR l).2 = true ∧ profileOk (profR l).1 = true ∧ totalOf (profR l).1 = sumE l ∧ ∀ m, m ≠ [] → m.all frameOk = true → countOf (profR l).1 m = cntT l (fmtF m) := by
  obtain ⟨q, h1, h2, h3, h4⟩ := profL_yes emptyP_ok he (by rw [total_empty]; omega)
  rw [profR_yes h1]
  refine ⟨rfl, h2, by rw [h3, total_empty]; omega, fun m hm ha => by rw [h4 m hm ha, countOf_empty]; omega⟩
theorem count_ext {p q : DProfile} (h : ∀ m, m ≠ [] → m.all frameOk = true → countOf p m = countOf q m) (m : List DFrame) : countOf p m = countOf q m := by
  by_cases h1 : m ≠ [] ∧ m.all frameOk = true
  · exact h m h1.1 h1.2
  · have h2 : countOf p m = 0 := Decidable.byContradiction fun hc => h1 (stack_ok hc)
    have h3 : countOf q m = 0 := Decidable.byContradiction fun hc => h1 (stack_ok hc)
    rw [h2, h3]
/-- a profile is the one of its entries -/
theorem back_ents {p : DProfile} (h : profileOk p = true) : (profR (entriesOf p)).2 = true ∧ profileOk (profR (entriesOf p)).1 = true ∧ entriesOf (profR (entriesOf p)).1 = entriesOf p ∧ totalOf (profR (entriesOf p)).1 = totalOf p := by
  have hb := total_bd h
  obtain ⟨h1, h2, h3, h4⟩ := profR_yes2 (fun e he => ents_entOk he) (by rw [sumE_ents h]; exact hb.2)
  refine ⟨h1, h2, ents_ext h2 h (count_ext fun m hm ha => by rw [h4 m hm ha, cntT_ents h hm ha]), by rw [h3, sumE_ents h]⟩
theorem merge_spec {p q : DProfile} (hp : profileOk p = true) (hq : profileOk q = true) (ht : totalOf p + totalOf q ≤ 1000000000000) :
    (mergeP p q).2 = true ∧ profileOk (mergeP p q).1 = true ∧ totalOf (mergeP p q).1 = totalOf p + totalOf q ∧ ∀ m, countOf (mergeP p q).1 m = countOf p m + countOf q m := by
  have hm : mergeP p q = profR (entriesOf p ++ entriesOf q) := by simp [mergeP, hp, hq]
  rw [hm]
  obtain ⟨h1, h2, h3, h4⟩ := profR_yes2 (l := entriesOf p ++ entriesOf q) (fun e he => (List.mem_append.1 he).elim ents_entOk ents_entOk) (by rw [sumE_app, sumE_ents hp, sumE_ents hq]; exact ht)
  refine ⟨h1, h2, by rw [h3, sumE_app, sumE_ents hp, sumE_ents hq], fun m => ?_⟩
  by_cases hmm : m ≠ [] ∧ m.all frameOk = true
  · rw [h4 m hmm.1 hmm.2, cntT_app, cntT_ents hp hmm.1 hmm.2, cntT_ents hq hmm.1 hmm.2]
  · have hz : ∀ r : DProfile, countOf r m = 0 := fun r => Decidable.byContradiction fun hc => hmm (stack_ok hc)
    rw [hz, hz, hz]
    rfl
theorem ents_strict {p : DProfile} (h : profileOk p = true) {k : Nat} {x y : DEntry} (hx : (entriesOf p)[k]? = some x) (hy : (entriesOf p)[k + 1]? = some y) : bl x.Stack < bl y.Stack := by
  have h1 := ents_le (p := p)
  have h2 := ents_nodup2 h
  obtain ⟨hk, hx⟩ := List.getElem?_eq_some_iff.1 hx
  obtain ⟨hk2, hy⟩ := List.getElem?_eq_some_iff.1 hy
  have h3 := List.pairwise_iff_getElem.1 h1 k (k + 1) hk hk2 (by omega)
  rw [hx, hy] at h3
  have h4 : bl x.Stack ≠ bl y.Stack := by
    intro e
    have h5 := List.pairwise_iff_getElem.1 h2 k (k + 1) (by simpa using hk) (by simpa using hk2) (by omega)
    simp only [List.getElem_map, hx, hy] at h5
    exact h5 e
  exact bl_lt_of (bl_le_of_not h3) h4
end Go.Proofs.YtcomafmiclkmhaaGreatDoor
namespace Go.Proofs.YtcomafmiclkmhaaGreatDoor
open Go.RowKit
theorem fresh_ints3 {W0 X W : World} {e : TypeId} {a b c : Int} (ha : I64 a) (hb : I64 b) (hc : I64 c) (hg : Gro (X.alloc (.cells #[.int .i64 a, .int .i64 b, .int .i64 c] e)) W) (h0 : Gro W0 X) {g : Nat} (hgX : g = X.heap.size) : Fresh (intT.sl e) W0 W [.slice (some ⟨g, 0, none⟩) 3 3] [a, b, c] := by
  subst hgX
  refine Fresh.gro ⟨[X.heap.size], own_made (xs := [a, b, c]) (heap_alloc_new X _) (show Rows intT _ _ [a, b, c] [] from ⟨[.int .i64 a], [.int .i64 b, .int .i64 c], [], [], rfl, rfl, ⟨rfl, ha.1, ha.2, rfl⟩, ⟨[.int .i64 b], [.int .i64 c], [], [], rfl, rfl, ⟨rfl, hb.1, hb.2, rfl⟩, ⟨[.int .i64 c], [], [], [], rfl, rfl, ⟨rfl, hc.1, hc.2, rfl⟩, rfl, rfl⟩⟩⟩) (by simp), by simp, fun b hb => ?_⟩ hg
  simp at hb
  subst hb
  exact h0.size
theorem packI_size (l : List Int) : (packI l).size ≤ 6 + 6 * l.length := by
  unfold packI
  split
  · rw [size_of, List.length_append]
    have h1 := encV_llen l.length
    have h2 := packL_len l l.length
    rw [List.take_length] at h2
    omega
  · show (#[] : Array UInt8).size ≤ _
    simp
def encS (x : DSample) : ByteArray := if sampleOk x then encV x.Thread ++ packI (x.View.Pc :: x.View.Sp :: x.View.Fp :: x.View.Words) else ⟨#[]⟩
end Go.Proofs.YtcomafmiclkmhaaGreatDoor
namespace Go.Proofs.YtcomafmiclkmhaaGreatDoor
open Go.RowKit
theorem signed_less {x : Int} (h : sgOk x = true) : signed (signless x).toNat = x := by
  have hb := signless_bd h
  unfold sgOk at h
  have h2 := btw_iff.1 h
  unfold signed
  rw [if_pos (btw_mk (by omega) (by omega))]
  have e : signless x = if x < 0 then -2 * x - 1 else 2 * x := by unfold signless; rw [h, if_pos rfl]
  split at e
  · rw [if_pos (by omega)]; omega
  · rw [if_neg (by omega)]; omega
theorem decGo_enc {L rest : List UInt8} {a N : Nat} (hN : N ≤ 1099511627775) (hL : L.drop a = varN N ++ rest) : ∀ (f k n m : Nat) (P : List UInt8), N = n + m * 128 ^ k → varN N = P ++ varN m → P.length = k → m < 128 ^ (f + 1) → decGo L a (f + 1) k n = (N, (varN N).length, true) := by
  intro f
  induction f with
  | zero =>
    intro k n m P h1 h2 h3 h4
    have hm : m < 128 := by simpa using h4
    have hx : L[a + k]? = some (UInt8.ofNat m) := by
      rw [← List.getElem?_drop, hL, h2, varN_lo hm, ← h3]
      simp
    have hb : (UInt8.ofNat m).toNat = m := UInt8.toNat_ofNat_of_lt' (by show m < 256; omega)
    rw [decGo_some hx, hb, if_pos hm, Nat.mod_eq_of_lt hm, ← h1, encV_list hN]
    have hl : (varN N).length = k + 1 := by rw [h2, varN_lo hm, List.length_append, h3]; rfl
    rw [if_pos (by rw [hL, ← hl]; simp), hl]
  | succ f ih =>
    intro k n m P h1 h2 h3 h4
    by_cases hm : m < 128
    · have hx : L[a + k]? = some (UInt8.ofNat m) := by
        rw [← List.getElem?_drop, hL, h2, varN_lo hm, ← h3]
        simp
      have hb : (UInt8.ofNat m).toNat = m := UInt8.toNat_ofNat_of_lt' (by show m < 256; omega)
      rw [decGo_some hx, hb, if_pos hm, Nat.mod_eq_of_lt hm, ← h1, encV_list hN]
      have hl : (varN N).length = k + 1 := by rw [h2, varN_lo hm, List.length_append, h3]; rfl
      rw [if_pos (by rw [hL, ← hl]; simp), hl]
    · have hv := varN_hi (n := m) (by omega)
      have hx : L[a + k]? = some (UInt8.ofNat (m % 128 + 128)) := by
        rw [← List.getElem?_drop, hL, h2, hv, ← h3]
        simp
      have hb : (UInt8.ofNat (m % 128 + 128)).toNat = m % 128 + 128 := UInt8.toNat_ofNat_of_lt' (by show m % 128 + 128 < 256; omega)
      rw [decGo_some hx, hb, if_neg (by omega)]
      have e1 : (m % 128 + 128) % 128 = m % 128 := by omega
      rw [e1]
      refine ih (k + 1) _ (m / 128) (P ++ [UInt8.ofNat (m % 128 + 128)]) ?_ (by rw [h2, hv]; simp) (by simp [h3]) (by rw [Nat.pow_succ] at h4; omega)
      have e2 : m * 128 ^ k = (m % 128 + 128 * (m / 128)) * 128 ^ k := by rw [Nat.mod_add_div]
      rw [h1, e2, Nat.add_mul, Nat.pow_succ]
      rw [Nat.add_assoc, Nat.mul_comm 128 (m / 128), Nat.mul_assoc, Nat.mul_comm 128 (128 ^ k)]
theorem decV_enc {s : ByteArray} {a N : Nat} {rest : List UInt8} (hN : N ≤ 1099511627775) (hL : s.data.toList.drop a = varN N ++ rest) : decV s a = (N, (varN N).length, true) := by
  unfold decV
  rw [if_pos (by omega), Int.toNat_natCast]
  exact decGo_enc hN hL 5 0 0 N [] (by simp) rfl rfl (by omega)
theorem packL_cons {x : Int} {l : List Int} (h : sgOk x = true) : packL (x :: l) = varN (signless x).toNat ++ packL l := by
  have hb := signless_bd h
  have : (encV (signless x)).data.toList = varN (signless x).toNat := by
    obtain ⟨n, hn⟩ := Int.eq_ofNat_of_zero_le hb.1
    rw [hn]
    exact encV_list (by omega)
  rw [← this]
  rfl
theorem unpGo_enc {s : ByteArray} {a : Nat} : ∀ (l : List Int) (z : Nat) (acc : List Int) (rest : List UInt8), l.all sgOk = true → s.data.toList.drop (a + z) = packL l ++ rest → unpGo s a l.length z acc = some (acc ++ l, z + (packL l).length)
  | [], z, acc, rest, _, _ => by simp [unpGo, packL]
  | x :: l, z, acc, rest, h, hd => by
    simp only [List.all_cons, Bool.and_eq_true] at h
    have hb := signless_bd h.1
    rw [packL_cons h.1, List.append_assoc] at hd
    have h1 := decV_enc (N := (signless x).toNat) (by omega) hd
    have e : ((a + z : Nat) : Int) = (a : Int) + z := by omega
    rw [e] at h1
    rw [List.length_cons, unpGo_ok h1, unpGo_enc l _ _ rest h.2 (by rw [← Nat.add_assoc, ← List.drop_drop, hd]; simp), signed_less h.1, packL_cons h.1]
    simp [Nat.add_assoc]
theorem unpI_enc {s : ByteArray} {a : Nat} {l : List Int} {rest : List UInt8} (hl : l.length ≤ 1099511627775) (h : l.all sgOk = true) (hd : s.data.toList.drop a = varN l.length ++ (packL l ++ rest)) : unpI s a = (l, (varN l.length).length + (packL l).length, true) := by
  have h1 := decV_enc hl hd
  unfold unpI
  rw [h1]
  simp only [if_true]
  rw [unpGo_enc l _ [] rest h (by rw [← List.drop_drop, hd]; simp)]
  simp [unpR]
def zSample : DSample := ⟨0, ⟨0, 0, 0, []⟩⟩
def mkS (t : Int) (l : List Int) : DSample := ⟨t, ⟨(l[0]?).getD 0, (l[1]?).getD 0, (l[2]?).getD 0, l.drop 3⟩⟩
def decS (s : ByteArray) : DSample × Bool :=
  if (unpI s (decV s 0).2.1).2.2 = true ∧ 3 ≤ (unpI s (decV s 0).2.1).1.length ∧ encS (mkS (decV s 0).1 (unpI s (decV s 0).2.1).1) = s then (mkS (decV s 0).1 (unpI s (decV s 0).2.1).1, true) else (zSample, false)
theorem ba_eq {x y : ByteArray} (h : x.data.toList = y.data.toList) : x = y := by
  cases x; cases y; simpa using h
theorem decS_more {s : ByteArray} (h1 : (unpI s (decV s 0).2.1).2.2 = true) (h2 : 3 ≤ (unpI s (decV s 0).2.1).1.length) (h2' : (unpI s (decV s 0).2.1).1.length ≤ 1099511627775) (h3 : encS (mkS (decV s 0).1 (unpI s (decV s 0).2.1).1) = s) :
    (decV s 0).2.2 = true ∧ (decV s 0).2.1 + (unpI s (decV s 0).2.1).2.1 = s.size := by
  obtain ⟨t, z, ok, hd⟩ : ∃ t z ok, decV s 0 = (t, z, ok) := ⟨_, _, _, rfl⟩
  rw [hd] at h1 h2 h2' h3 ⊢
  simp only at h1 h2 h2' h3 ⊢
  obtain ⟨l, n, ok2, hu⟩ : ∃ l n ok2, unpI s z = (l, n, ok2) := ⟨_, _, _, rfl⟩
  rw [hu] at h1 h2 h2' h3 ⊢
  simp only at h1 h2 h2' h3 ⊢
  subst h1
  unfold encS at h3
  split at h3
  · rename_i hok
    have hl : [(mkS t l).View.Pc, (mkS t l).View.Sp, (mkS t l).View.Fp] ++ (mkS t l).View.Words = l := by
      match l, h2 with
      | a :: b :: c :: r, _ => rfl
    have hl' : ((mkS t l).View.Pc :: (mkS t l).View.Sp :: (mkS t l).View.Fp :: (mkS t l).View.Words) = l := hl
    simp only [sampleOk, viewOk, Bool.and_eq_true] at hok
    obtain ⟨k1, ⟨k2, k3⟩, k4, k5, k6⟩ := hok
    have hall : l.all sgOk = true := by
      rw [← hl]
      simp only [List.all_append, List.all_cons, List.all_nil, Bool.and_true, Bool.and_eq_true]
      have a4 := btw_iff.1 k4
      have a2 := btw_iff.1 k2
      exact ⟨⟨btw_mk (by omega) (by omega), btw_mk (by omega) (by omega), k5⟩, k6⟩
    rw [hl'] at h3
    have ht : t ≤ 1099511627775 := by
      have a1 := btw_iff.1 k1
      have : ((mkS t l).Thread : Int) = t := rfl
      omega
    have hs : s.data.toList = varN t ++ (varN l.length ++ (packL l ++ [])) := by
      rw [← h3]
      have e1 : (encV (mkS t l).Thread).data.toList = varN t := encV_list ht
      have e2 : (packI l).data.toList = varN l.length ++ packL l := by
        unfold packI
        rw [hall, if_pos rfl]
        show (encV l.length).data.toList ++ packL l = _
        rw [encV_list h2']
      rw [ByteArray.data_append, Array.toList_append, e1, e2, List.append_nil]
    have hd2 := decV_enc (s := s) (a := 0) ht hs
    rw [show ((0 : Nat) : Int) = 0 from rfl, hd] at hd2
    simp only [Prod.mk.injEq] at hd2
    obtain ⟨_, hz, hok⟩ := hd2
    have hu2 := unpI_enc (s := s) (a := z) (rest := []) h2' hall (by rw [hs, hz]; simp)
    rw [hu] at hu2
    simp only [Prod.mk.injEq] at hu2
    refine ⟨hok, ?_⟩
    have hsz : s.size = s.data.toList.length := by rw [Array.length_toList]; rfl
    rw [hu2.2.1, hsz, hs, hz]
    simp
  · exfalso
    have : decV s 0 = (0, 0, false) := by rw [← h3]; rfl
    rw [hd] at this
    simp only [Prod.mk.injEq] at this
    rw [this.2.1, ← h3] at hu
    have hq : unpI (⟨#[]⟩ : ByteArray) (0 : Nat) = ([], 0, false) := rfl
    rw [hq] at hu
    simp at hu
end Go.Proofs.YtcomafmiclkmhaaGreatDoor
namespace Go.Proofs.YtcomafmiclkmhaaGreatDoor
open Go.RowKit
theorem namesOf_sorted (p : DProfile) : ((namesOf p).map bl).Pairwise (· < ·) := by
  unfold namesOf
  split
  · rw [foldl_insB]
    exact (foldl_ins (acc := []) List.Pairwise.nil).1
  · exact List.Pairwise.nil
theorem namesOf_mem {p : DProfile} (h : profileOk p = true) {x : DNode} (hx : x ∈ p.Stacks.Nodes) : x.Frame.Name ∈ namesOf p := by
  have h1 : bl x.Frame.Name ∈ (namesOf p).map bl := by
    unfold namesOf
    rw [if_pos h, foldl_insB]
    refine ((foldl_ins (acc := []) List.Pairwise.nil).2 _).2 ?_
    exact .inl (List.mem_map_of_mem (f := bl) (List.mem_map_of_mem (f := fun x : DNode => x.Frame.Name) hx))
  obtain ⟨s, hs, he⟩ := List.mem_map.1 h1
  rw [← bl_inj he]
  exact hs
theorem countOf_le {p : DProfile} (hp : profileOk p = true) {c : Int} (hc : c ∈ p.Counts) : c ≤ 1000000000000 := by
  have h := (countsOk_iff (by omega)).1 (pOk_parts hp).2.2
  obtain ⟨h1, h2⟩ := h
  have : ∀ cs : List Int, (∀ c ∈ cs, 0 ≤ c) → c ∈ cs → c ≤ cs.sum := by
    intro cs
    induction cs with
    | nil => intro _ h; cases h
    | cons a cs ih =>
      intro h3 h4
      have hs : ∀ l : List Int, (∀ c ∈ l, 0 ≤ c) → 0 ≤ l.sum := by
        intro l
        induction l with
        | nil => intro _; simp
        | cons b l ih =>
          intro h
          have := ih fun y hy => h y (List.mem_cons_of_mem _ hy)
          have := h b List.mem_cons_self
          simp only [List.sum_cons]
          omega
      have h5 := hs cs fun y hy => h3 y (List.mem_cons_of_mem _ hy)
      have h6 := h3 a List.mem_cons_self
      simp only [List.sum_cons]
      rcases List.mem_cons.1 h4 with rfl | h4
      · omega
      · have := ih (fun y hy => h3 y (List.mem_cons_of_mem _ hy)) h4
        omega
  have := this p.Counts h1 hc
  omega
theorem packT_list {t : ByteArray} (h : t.size ≤ 1099511627775) : (packT t).data.toList = varN t.size ++ t.data.toList := by
  unfold packT
  rw [ByteArray.data_append, Array.toList_append, encV_list h]
theorem unpT_enc {s t : ByteArray} {a : Nat} {rest : List UInt8} (ht : t.size ≤ 1099511627775) (hd : s.data.toList.drop a = (packT t).data.toList ++ rest) : unpT s a = (t, (packT t).data.toList.length, true) := by
  rw [packT_list ht] at hd ⊢
  rw [List.append_assoc] at hd
  have h1 := decV_enc ht hd
  have hlen := congrArg List.length hd
  simp only [List.length_drop, List.length_append, llen] at hlen
  have hv := varN_pos t.size
  unfold unpT
  rw [h1]
  simp only [Bool.true_and, Int.toNat_natCast]
  rw [if_pos (decide_eq_true (by omega))]
  simp only [Prod.mk.injEq, and_true, List.length_append, llen]
  apply ba_eq
  rw [ext_list, ← List.drop_drop, hd, List.drop_left]
  have e : a + (varN t.size).length + t.size - (a + (varN t.size).length) = t.data.toList.length := by rw [llen]; omega
  rw [e, List.take_left]
theorem rdNames_enc {s : ByteArray} : ∀ {ns : List ByteArray} {acc : List ByteArray} {a : Nat} {rest : List UInt8}, (∀ t ∈ ns, t.size ≤ 1099511627775) → s.data.toList.drop a = (ns.map fun t => (packT t).data.toList).flatten ++ rest →
    ∃ b, rdNames s ns.length a acc = some (acc ++ ns, b) ∧ s.data.toList.drop b = rest
  | [], acc, a, rest, _, hd => ⟨a, by simp [rdNames], by simpa using hd⟩
  | t :: ns, acc, a, rest, hs, hd => by
    simp only [List.map_cons, List.flatten_cons, List.append_assoc] at hd
    have h1 := unpT_enc (hs t List.mem_cons_self) hd
    have hd2 : s.data.toList.drop (a + (packT t).data.toList.length) = (ns.map fun t => (packT t).data.toList).flatten ++ rest := by rw [← List.drop_drop, hd, List.drop_left]
    obtain ⟨b, h2, h3⟩ := rdNames_enc (acc := acc ++ [t]) (fun u hu => hs u (List.mem_cons_of_mem _ hu)) hd2
    refine ⟨b, ?_, h3⟩
    simp only [List.length_cons]
    rw [rdNames_ok h1, h2]
    simp
theorem idx_mem {ns : List ByteArray} {t : ByteArray} (h : t ∈ ns) : ∃ k : Nat, idxV ns t = k ∧ ns[k]? = some t := by
  unfold idxV
  cases hf : ns.findIdx? (fun y => decide (y = t)) with
  | some k =>
    obtain ⟨h1, h2, _⟩ := List.findIdx?_eq_some_iff_getElem.1 hf
    refine ⟨k, rfl, ?_⟩
    rw [List.getElem?_eq_getElem h1]
    simpa using h2
  | none =>
    have := List.findIdx?_eq_none_iff.1 hf t h
    simp at this
theorem rdFour_enc {s : ByteArray} {a n1 n2 n3 n4 : Nat} {rest : List UInt8} (h1 : n1 ≤ 1099511627775) (h2 : n2 ≤ 1099511627775) (h3 : n3 ≤ 1099511627775) (h4 : n4 ≤ 1099511627775)
    (hd : s.data.toList.drop a = varN n1 ++ (varN n2 ++ (varN n3 ++ (varN n4 ++ rest)))) : ∃ b, rdFour s a = some (n1, n2, n3, n4, b) ∧ s.data.toList.drop b = rest := by
  have d1 : s.data.toList.drop (a + (varN n1).length) = varN n2 ++ (varN n3 ++ (varN n4 ++ rest)) := by rw [← List.drop_drop, hd, List.drop_left]
  have d2 : s.data.toList.drop (a + (varN n1).length + (varN n2).length) = varN n3 ++ (varN n4 ++ rest) := by rw [← List.drop_drop, d1, List.drop_left]
  have d3 : s.data.toList.drop (a + (varN n1).length + (varN n2).length + (varN n3).length) = varN n4 ++ rest := by rw [← List.drop_drop, d2, List.drop_left]
  refine ⟨_, rdFour_ok (decV_enc h1 hd) (decV_enc h2 d1) (decV_enc h3 d2) (decV_enc h4 d3), ?_⟩
  rw [← List.drop_drop, d3, List.drop_left]
theorem rdNodes_enc {s : ByteArray} {ns : List ByteArray} (hns : ns.length ≤ 1099511627775) : ∀ {l : List (DNode × Int)} {p : DProfile} {a : Nat} {rest : List UInt8},
    (∀ x ∈ l, -1 ≤ x.1.Parent ∧ x.1.Parent ≤ 1099511627774 ∧ x.1.Frame.Name ∈ ns ∧ 0 ≤ x.1.Frame.Line ∧ x.1.Frame.Line ≤ 1099511627775 ∧ 0 ≤ x.2 ∧ x.2 ≤ 1099511627775) →
    s.data.toList.drop a = rowsL ns l ++ rest → rdNodes s ns l.length a p = some ⟨⟨p.Stacks.Nodes ++ l.map Prod.fst⟩, p.Counts ++ l.map Prod.snd⟩
  | [], p, a, rest, _, _ => by simp [rdNodes]
  | x :: l, p, a, rest, hx, hd => by
    obtain ⟨h1, h2, h3, h4, h5, h6, h7⟩ := hx x List.mem_cons_self
    obtain ⟨k, hk1, hk2⟩ := idx_mem h3
    have hkl := (List.getElem?_eq_some_iff.1 hk2).1
    obtain ⟨v0, e0⟩ := Int.eq_ofNat_of_zero_le (show 0 ≤ x.1.Parent + 1 by omega)
    obtain ⟨v2, e2⟩ := Int.eq_ofNat_of_zero_le h4
    obtain ⟨v3, e3⟩ := Int.eq_ofNat_of_zero_le h6
    simp only [rowsL, List.map_cons, List.flatten_cons, rowB, List.append_assoc] at hd
    rw [e0, hk1, e2, e3, encV_list (by omega), encV_list (by omega), encV_list (by omega), encV_list (by omega)] at hd
    obtain ⟨b, hb1, hb2⟩ := rdFour_enc (by omega) (by omega) (by omega) (by omega) hd
    simp only [List.length_cons]
    rw [rdNodes_ok hb1 hk2, rdNodes_enc hns (fun y hy => hx y (List.mem_cons_of_mem _ hy)) hb2]
    have ex : (⟨(v0 : Int) - 1, ⟨x.1.Frame.Name, (v2 : Int)⟩⟩ : DNode) = x.1 := by
      rw [← e2, show (v0 : Int) - 1 = x.1.Parent by omega]
    have ey : (v3 : Int) = x.2 := e3.symm
    simp only [pushP, List.map_cons]
    rw [ex, ey]
    simp
theorem rawP_enc {p : DProfile} {s : ByteArray} {t : List UInt8} (hp : profileOk p = true) (hn : p.Stacks.Nodes.length ≤ 1099511627775) (hs : s.data.toList = (encP p).data.toList ++ t) : rawP s = some p := by
  have hpp := pOk_parts hp
  have he : (encP p).data.toList = headL (namesOf p) ++ (encV p.Stacks.Nodes.length).data.toList ++ rowsL (namesOf p) (p.Stacks.Nodes.zip p.Counts) := by
    unfold encP
    rw [if_pos hp]
  have hnl := namesOf_len p
  have hcz : (p.Stacks.Nodes.zip p.Counts).length = p.Stacks.Nodes.length := by rw [List.length_zip]; omega
  rw [he, headL, encV_list (by omega), encV_list hn] at hs
  simp only [List.append_assoc] at hs
  have d0 : s.data.toList.drop 0 = varN (namesOf p).length ++ (((namesOf p).map fun s => (packT s).data.toList).flatten ++ (varN p.Stacks.Nodes.length ++ (rowsL (namesOf p) (p.Stacks.Nodes.zip p.Counts) ++ t))) := hs
  have k0 := decV_enc (by omega) d0
  have d1 : s.data.toList.drop (varN (namesOf p).length).length = ((namesOf p).map fun s => (packT s).data.toList).flatten ++ (varN p.Stacks.Nodes.length ++ (rowsL (namesOf p) (p.Stacks.Nodes.zip p.Counts) ++ t)) := by
    rw [List.drop_zero] at d0
    rw [d0, List.drop_left]
  obtain ⟨b, k1, d2⟩ := rdNames_enc (acc := []) (fun u hu => by have := names_size hp hu; omega) d1
  have k2 := decV_enc hn d2
  have d3 : s.data.toList.drop (b + (varN p.Stacks.Nodes.length).length) = rowsL (namesOf p) (p.Stacks.Nodes.zip p.Counts) ++ t := by rw [← List.drop_drop, d2, List.drop_left]
  rw [rawP_ok k0 k1 k2]
  have k3 := rdNodes_enc (by omega) (l := p.Stacks.Nodes.zip p.Counts) (p := nilP) (fun x hx => by
    obtain ⟨j, hj, rfl⟩ := List.getElem_of_mem hx
    rw [List.getElem_zip]
    rw [hcz] at hj
    have h1 := stacksOk_par hpp.1 (List.getElem?_eq_getElem hj)
    have h2 := frameOk_line h1.2.2.1
    have hc : p.Counts[j]? = some p.Counts[j] := List.getElem?_eq_getElem (by omega)
    have h3 := ((countsOk_iff (by omega)).1 hpp.2.2).1 _ (List.mem_of_getElem? hc)
    have h4 : p.Counts[j] ≤ 1000000000000 := by
      have := countOf_le hp (List.mem_of_getElem? hc)
      exact this
    exact ⟨h1.1, by have := h1.2.1; simp only at this ⊢; omega, namesOf_mem hp (List.getElem_mem _), h2.1, by simp only; omega, h3, by simp only; omega⟩) d3
  rw [hcz] at k3
  rw [List.nil_append, k3, List.map_fst_zip (by omega), List.map_snd_zip (by omega)]
  rfl
theorem decP_enc {p : DProfile} (hp : profileOk p = true) (hn : p.Stacks.Nodes.length ≤ 1099511627775) : decP (encP p) = (p, true) := decP_eq (rawP_enc hp hn (t := []) (by simp)) rfl
theorem decP_more {p : DProfile} {t : ByteArray} (hp : profileOk p = true) (hn : p.Stacks.Nodes.length ≤ 1099511627775) (ht : t.size ≠ 0) : (decP (encP p ++ t)).2 = false := by
  have hr := rawP_enc (s := encP p ++ t) hp hn (t := t.data.toList) (by rw [ByteArray.data_append, Array.toList_append])
  rw [decP_ne hr]
  intro e
  have := congrArg ByteArray.size e
  rw [ByteArray.size_append] at this
  omega
theorem encP_inj {p q : DProfile} (hp : profileOk p = true) (hq : profileOk q = true) (hn : p.Stacks.Nodes.length ≤ 1099511627775) (hn2 : q.Stacks.Nodes.length ≤ 1099511627775) (h : encP p = encP q) : p = q := by
  have h1 := decP_enc hp hn
  rw [h, decP_enc hq hn2] at h1
  simp only [Prod.mk.injEq, and_true] at h1
  exact h1.symm
end Go.Proofs.YtcomafmiclkmhaaGreatDoor
namespace Go.Proofs.YtcomafmiclkmhaaGreatDoor
open Go.RowKit
def stk (fs : List DFrame) : Prop := fs ≠ [] ∧ fs.all frameOk = true
theorem stk_snoc {fs : List DFrame} {nm : ByteArray} {n : Int} (h : stk fs) (hn : nameOk nm = true) (hl : 0 ≤ n ∧ n ≤ 59) : stk (fs ++ [⟨nm, n⟩]) := by
  refine ⟨by simp, ?_⟩
  rw [List.all_append, h.2]
  simp [frameOk, hn, btw_mk hl.1 hl.2]
theorem lit3 {x : Nat} (h : (x : Int) < 3) : ∃ nm : ByteArray, (#[Value.string { data := #[102] }, Value.string { data := #[103, 103] }, Value.string { data := #[104] }] : Array Value)[x]? = some (.string nm) ∧ nameOk nm = true ∧ nm.size ≤ 9 := by
  have : x = 0 ∨ x = 1 ∨ x = 2 := by omega
  rcases this with rfl | rfl | rfl
  · exact ⟨_, rfl, by decide, by decide⟩
  · exact ⟨_, rfl, by decide, by decide⟩
  · exact ⟨_, rfl, by decide, by decide⟩
set_option maxRecDepth 100000 in
set_option maxHeartbeats 2000000 in
theorem stack_s {w W : World} {k : Nat} (hC : Cur w W k) : Calls Tryz.prog 30 #[.pointer (some ⟨k, 0, none⟩)] W fun e W' => ∃ A c fs, e = .returned (.slice A fs.length c) ∧ stk fs ∧ fs.length ≤ 4 ∧ Cur w W' k ∧ OnlyS [k] W W' ∧ FrN (tFrame.sl 46) W.heap.size W'.heap.size W' [.slice A fs.length c] fs := by
  go_enter Tryz.func30, Tryz.ntmps30
  go_wp2_with (fail)
  refine (below_s hC 3 (by decide) (by decide)).mono ?_
  rintro e W1 ⟨x1, rfl, hx1, hC1, hS1⟩
  go_wp2_with (fail)
  refine (below_s (hC1.more (by repeat (first | with_reducible exact Gro.refl _ | with_reducible exact Gro.refl_drew _ _ _ | with_reducible exact Gro.refl_drewN _ _ _ _ | assumption | with_reducible apply Gro.more | with_reducible apply Gro.alloc | with_reducible apply Gro.drew | with_reducible apply Gro.drewN))) 4 (by decide) (by decide)).mono ?_
  rintro e W2 ⟨x2, rfl, hx2, hC2, hS2⟩
  go_wp2_with (fail)
  go_loopw [3, 4] (fun a b wr => ∃ (j : Nat) (A : Option Addr) (c : Nat) (fs : List DFrame), a = .slice A fs.length c ∧ b = .int .i64 j ∧ j + fs.length ≤ 4 ∧ Hid (stk fs) ∧ Cur w wr k ∧ OnlyS [k] W wr ∧ FrN (tFrame.sl 46) W.heap.size wr.heap.size wr [.slice A fs.length c] fs) (fun _ b _ => (intOf b).toNat)
  case atStart =>
    have h0 : FrN (tFrame.sl 46) W.heap.size (W1.heap.size + 1) (W1.alloc (.cells #[.string { data := #[109, 97, 105, 110] }, .int .i64 (1 + x1)] 46)) [.slice (some ⟨W1.heap.size, 0, none⟩) 1 1] [⟨{ data := #[109, 97, 105, 110] }, 1 + x1⟩] := by
      have h1 := fresh_one (e := 46) flatFrame (W0 := W1) (W := W1) (W1 := w) (B := 0) (ec := [.string { data := #[109, 97, 105, 110] }, .int .i64 (1 + x1)]) (x := ⟨{ data := #[109, 97, 105, 110] }, 1 + x1⟩) (tFrame_mkR (x := ⟨{ data := #[109, 97, 105, 110] }, 1 + x1⟩) (by simp only; decide) ⟨by simp only; omega, by simp only; omega⟩) (Gro.refl _) rfl
      exact h1.frN.wide hS1.size (by simp)
    exact ⟨x2, _, 1, [⟨{ data := #[109, 97, 105, 110] }, 1 + x1⟩], rfl, rfl, by simp only [List.length_cons, List.length_nil]; omega, Lib.hid ⟨by simp, by simp [frameOk, show nameOk { data := #[109, 97, 105, 110] } = true by decide]; exact btw_mk (by omega) (by omega)⟩, hC2, (hS1.trans (Gro.only (by repeat (first | with_reducible exact Gro.refl _ | with_reducible exact Gro.refl_drew _ _ _ | with_reducible exact Gro.refl_drewN _ _ _ _ | assumption | with_reducible apply Gro.more | with_reducible apply Gro.alloc | with_reducible apply Gro.drew | with_reducible apply Gro.drewN)) _)).trans hS2, (h0.only hS2 hC.lt).wide (Nat.le_refl _) (by have := hS2.size; simpa using this)⟩
  case round =>
    obtain ⟨j, A, c, fs, rfl, rfl, hj, hst, hC3, hS3, hF3⟩ := hrel
    by_cases hlt : 0 < j
    · go_wp2_with (fail)
      have hkl := hC3.lt
      have hkW := hC.lt
      have hWr := hS3.size
      go_region_law (first
        | (go_simp; go_at_call 28; (with_reducible refine (below_s (hC4.more (by (repeat (first | with_reducible exact Gro.refl _ | with_reducible exact Gro.refl_drew _ _ _ | with_reducible exact Gro.refl_drewN _ _ _ _ | assumption | with_reducible apply Gro.more | with_reducible apply Gro.alloc | with_reducible apply Gro.drew | with_reducible apply Gro.drewN)); done)) 3 (by decide) (by decide)).mono ?_); rintro e W5 ⟨x5, rfl, hx5, hC5, hS5⟩; have hSS : OnlyS [k] wr W5 := (Gro.only (by repeat (first | with_reducible exact Gro.refl _ | with_reducible exact Gro.refl_drew _ _ _ | with_reducible exact Gro.refl_drewN _ _ _ _ | assumption | with_reducible apply Gro.more | with_reducible apply Gro.alloc | with_reducible apply Gro.drew | with_reducible apply Gro.drewN)) _).trans (hS4.trans ((Gro.only (by repeat (first | with_reducible exact Gro.refl _ | with_reducible exact Gro.refl_drew _ _ _ | with_reducible exact Gro.refl_drewN _ _ _ _ | assumption | with_reducible apply Gro.more | with_reducible apply Gro.alloc | with_reducible apply Gro.drew | with_reducible apply Gro.drewN)) _).trans hS5)); have hF5 := hF3.only hSS hkW; have hz5 := hSS.size; have hwr : IntKind.i64.wrap (4 + (x5 : Int)) = 4 + x5 := IntWalk.i64_in _ ⟨by omega, by omega⟩; (try have hcl := (hS5.cell (g := wr.heap.size) (by have := hS4.size; simp at this; simp; omega) (by simp; omega) x4).trans hcl); have hl4 := hC4.lt; (try have hcl2 := (hS5.cell (g := W4.heap.size) (by simp) (by simp; omega) x4).trans (show _ = some (Value.string nm) from by simpa [go_sem] using hnm)))
        | (go_simp; go_at_call 28; (with_reducible refine (below_s (hC3.more (by (repeat (first | with_reducible exact Gro.refl _ | with_reducible exact Gro.refl_drew _ _ _ | with_reducible exact Gro.refl_drewN _ _ _ _ | assumption | with_reducible apply Gro.more | with_reducible apply Gro.alloc | with_reducible apply Gro.drew | with_reducible apply Gro.drewN)); done)) 3 (by decide) (by decide)).mono ?_); rintro e W4 ⟨x4, rfl, hx4, hC4, hS4⟩; obtain ⟨nm, hnm, hok, hsz⟩ := lit3 hx4; try have hcl := (hS4.cell (g := wr.heap.size) (by simp) (by simp; omega) x4).trans (show _ = some (Value.string nm) from by simpa [go_sem] using hnm))
        | (refine step_append_up (lo := W.heap.size) (L := fs.length + 1) rfl (.tmp 16) (.tmp 26) elFrame flatFrame (hF5.gro (by (repeat (first | with_reducible exact Gro.refl _ | with_reducible exact Gro.refl_drew _ _ _ | with_reducible exact Gro.refl_drewN _ _ _ _ | assumption | with_reducible apply Gro.more | with_reducible apply Gro.alloc | with_reducible apply Gro.drew | with_reducible apply Gro.drewN)); done)) (by simp; omega) (by simp; omega) (W1 := w) (B := 0) (ec := [.string nm, .int .i64 (4 + x5)]) (y := ⟨nm, 4 + x5⟩) (tFrame_mkR (x := ⟨nm, 4 + x5⟩) (by simp only; omega) ⟨by simp only; omega, by simp only; omega⟩) rfl rfl rfl (by intro j u hu; simpa [go_sem, hwr] using hu) rfl (by omega) (by omega) ?_; intro A6 c6 W6 hb6 hF6))
      all_goals go_wp2_with (fail)
      all_goals go_roundw
      all_goals try (case measure => simp [intOf]; omega)
      all_goals refine ⟨j - 1, A6, c6, fs ++ [⟨nm, 4 + x5⟩], by simp, by go_num, by simp only [List.length_append, List.length_cons, List.length_nil]; omega, Lib.hid (stk_snoc hst.out hok ⟨by omega, by omega⟩), (hC5.more (by repeat (first | with_reducible exact Gro.refl _ | with_reducible exact Gro.refl_drew _ _ _ | with_reducible exact Gro.refl_drewN _ _ _ _ | assumption | with_reducible apply Gro.more | with_reducible apply Gro.alloc | with_reducible apply Gro.drew | with_reducible apply Gro.drewN))).below hb6 hkW, (hS3.trans (hSS.trans (Gro.only (by repeat (first | with_reducible exact Gro.refl _ | with_reducible exact Gro.refl_drew _ _ _ | with_reducible exact Gro.refl_drewN _ _ _ _ | assumption | with_reducible apply Gro.more | with_reducible apply Gro.alloc | with_reducible apply Gro.drew | with_reducible apply Gro.drewN)) _))).below hb6 (Nat.le_refl _), by rw [List.length_append]; exact hF6⟩
    · obtain rfl : j = 0 := by omega
      go_wp2_with (fail)
      go_ret
      exact ⟨A, c, fs, rfl, hst.out, by omega, hC3, hS3, hF3⟩
def stks (l : List (List DFrame)) : Prop := ∀ s ∈ l, stk s ∧ s.length ≤ 4
end Go.Proofs.YtcomafmiclkmhaaGreatDoor
namespace Go.Proofs.YtcomafmiclkmhaaGreatDoor
open Go.RowKit
theorem ints_rows {w : World} : ∀ {xs : List Int}, (∀ x ∈ xs, I64 x) → Rows intT w (xs.map (Value.int .i64)) xs []
  | [], _ => ⟨rfl, rfl⟩
  | x :: xs, h => ⟨[.int .i64 x], xs.map (Value.int .i64), [], [], rfl, rfl, ⟨rfl, (h x List.mem_cons_self).1, (h x List.mem_cons_self).2, rfl⟩, ints_rows fun y hy => h y (List.mem_cons_of_mem _ hy)⟩
theorem ints_own {W : World} {e : TypeId} {cs : Array Value} {n g : Nat} (xs : List Int) (hcs : cs.toList = xs.map (Value.int .i64)) (hn : n = xs.length) (hg : g = W.heap.size) (hb : ∀ x ∈ xs, I64 x) (hl : xs.length ≤ 1000) : FrN (intT.sl e) g (g + 1) (W.alloc (.cells cs e)) [.slice (some ⟨g, 0, none⟩) n n] xs := by
  subst hn hg
  have h : (intT.sl e).O (W.alloc (.cells cs e)) [.slice (some ⟨W.heap.size, 0, none⟩) xs.length xs.length] xs (W.heap.size :: []) :=
    own_made (heap_alloc_new W _) (by rw [hcs]; exact ints_rows hb) (by omega)
  exact ⟨_, h, by simp, fun b hb => by simp at hb; omega⟩
theorem blk_only {W X Y : World} {g k : Nat} {o : Obj} (h : W.heap[g]? = some o) (hG : Gro W X) (hS : OnlyS [k] X Y) (hne : g ≠ k) : Y.heap[g]? = some o := by
  have hl : g < W.heap.size := (Array.getElem?_eq_some_iff.1 h).1
  exact (hS.block g (Nat.lt_of_lt_of_le hl hG.size) (by simpa using hne)).trans ((hG.block hl).trans h)
theorem ints_blk {W : World} {g : Nat} {cs : Array Value} {e : TypeId} {n : Nat} (h : W.heap[g]? = some (.cells cs e (0, 0))) (xs : List Int) (hcs : cs.toList = xs.map (Value.int .i64)) (hn : n = xs.length) (hb : ∀ x ∈ xs, I64 x) (hl : xs.length ≤ 1000) : (intT.sl e).R W W.heap.size [.slice (some ⟨g, 0, none⟩) n n] xs := by
  subst hn
  have h : (intT.sl e).O W [.slice (some ⟨g, 0, none⟩) xs.length xs.length] xs (g :: []) := own_made h (by rw [hcs]; exact ints_rows hb) (by omega)
  exact Ty.read _ h
/-- a good, small profile -/
def dp (p : DProfile) : Prop := profileOk p = true ∧ totalOf p ≤ 280 ∧ p.Stacks.Nodes.length ≤ 28
set_option maxRecDepth 100000 in
set_option maxHeartbeats 8000000 in
theorem prof_s {w W : World} {k : Nat} (hC : Cur w W k) : Calls Tryz.prog 13 #[.pointer (some ⟨k, 0, none⟩)] W fun e W' => ∃ (p : DProfile) (A0 : Option Addr) (c0 : Nat) (A1 : Option Addr) (c1 : Nat), e = .returned (.agg #[.slice A0 p.Stacks.Nodes.length c0, .slice A1 p.Counts.length c1]) ∧ dp p ∧ Cur w W' k ∧ OnlyS [k] W W' ∧ FrN tProfile W.heap.size W'.heap.size W' [.slice A0 p.Stacks.Nodes.length c0, .slice A1 p.Counts.length c1] p := by
  have hk := hC.lt
  have hlo := hC.lo
  have hI : ∀ x ∈ ([1, 1, 2, 5, 40] : List Int), I64 x := by intro x hx; simp at hx; constructor <;> omega
  go_enter Tryz.func13, Tryz.ntmps13
  go_wp2_with (fail)
  refine (below_s (hC.more (by repeat (first | with_reducible exact Gro.refl _ | with_reducible exact Gro.refl_drew _ _ _ | with_reducible exact Gro.refl_drewN _ _ _ _ | assumption | with_reducible apply Gro.more | with_reducible apply Gro.alloc | with_reducible apply Gro.drew | with_reducible apply Gro.drewN))) 8 (by decide) (by decide)).mono ?_
  rintro e W2 ⟨x2, rfl, hx2, hC2, hS2⟩
  have e2 : W2.heap[W.heap.size]? = some (.cells #[.slice none 0 0, .slice none 0 0] 29 (0, 0)) := blk_only (heap_alloc_new W _) (by repeat (first | with_reducible exact Gro.refl _ | with_reducible exact Gro.refl_drew _ _ _ | with_reducible exact Gro.refl_drewN _ _ _ _ | assumption | with_reducible apply Gro.more | with_reducible apply Gro.alloc | with_reducible apply Gro.drew | with_reducible apply Gro.drewN)) hS2 (by omega)
  have e3 : W2.heap[W.heap.size + 1]? = some (.cells #[.slice none 0 0, .slice none 0 0] 29 (0, 0)) := blk_only (W := (W.alloc (.cells #[.slice none 0 0, .slice none 0 0] 29)).alloc (.cells #[.slice none 0 0, .slice none 0 0] 29)) (by have := heap_alloc_new (W.alloc (.cells #[.slice none 0 0, .slice none 0 0] 29)) (.cells #[.slice none 0 0, .slice none 0 0] 29); simpa using this) (by repeat (first | with_reducible exact Gro.refl _ | with_reducible exact Gro.refl_drew _ _ _ | with_reducible exact Gro.refl_drewN _ _ _ _ | assumption | with_reducible apply Gro.more | with_reducible apply Gro.alloc | with_reducible apply Gro.drew | with_reducible apply Gro.drewN)) hS2 (by omega)
  have hz2 := hS2.size
  simp at hz2
  have hS2' : OnlyS [k] W W2 := (Gro.only (by repeat (first | with_reducible exact Gro.refl _ | with_reducible exact Gro.refl_drew _ _ _ | with_reducible exact Gro.refl_drewN _ _ _ _ | assumption | with_reducible apply Gro.more | with_reducible apply Gro.alloc | with_reducible apply Gro.drew | with_reducible apply Gro.drewN)) _).trans hS2
  go_wp2_with (fail)
  go_loopw [4] (fun b wr => ∃ (j : Nat) (p : DProfile) (A0 : Option Addr) (c0 : Nat) (A1 : Option Addr) (c1 : Nat), b = .int .i64 j ∧ j ≤ 7 ∧ Hid (profileOk p = true) ∧ totalOf p + 40 * j ≤ 280 ∧ p.Stacks.Nodes.length + 4 * j ≤ 28 ∧ p.Counts.length ≤ 28 ∧ Cur w wr k ∧ OnlyS [k] W wr ∧ W.heap.size + 2 ≤ wr.heap.size ∧ Hid (wr.heap[W.heap.size]? = some (.cells #[.slice none 0 0, .slice none 0 0] 29 (0, 0))) ∧ Hid (wr.heap[W.heap.size + 1]? = some (.cells #[.slice A0 p.Stacks.Nodes.length c0, .slice A1 p.Counts.length c1] 29 (0, 0))) ∧ FrN tProfile (W.heap.size + 2) wr.heap.size wr [.slice A0 p.Stacks.Nodes.length c0, .slice A1 p.Counts.length c1] p) (fun b _ => (intOf b).toNat)
  case atStart =>
    have h0 : FrN tProfile (W.heap.size + 2) W2.heap.size W2 [.slice none 0 0, .slice none 0 0] emptyP := by
      obtain ⟨S, h1, h2, h3⟩ := fresh_emptyP W2 W2
      exact ⟨S, h1, h2, fun b hb => by have := h3 b hb; have := tProfile.ltO h1 b hb; omega⟩
    exact ⟨x2, emptyP, none, 0, none, 0, rfl, by omega, Lib.hid emptyP_ok, by rw [total_empty]; omega, by show 0 + 4 * x2 ≤ 28; omega, Nat.zero_le _, hC2, hS2', hz2, Lib.hid e2, Lib.hid e3, h0⟩
  case round =>
    obtain ⟨j, p, A0, c0, A1, c1, rfl, hj, hpok, hpt, hpn, hpc, hC3, hS3, hz3, hb2, hb3, hF3⟩ := hrel
    have hk3 := hC3.lt
    have ht0 := (total_bd hpok.out).1
    obtain ⟨q0, q1, qf0, qf1, ql⟩ := box2 hb3.out
    by_cases hlt : 0 < j
    · go_wp2_with (fail)
      go_region_law (first
        | (go_simp; go_at_call 30; (with_reducible refine (stack_s (hC3.more (by (repeat (first | with_reducible exact Gro.refl _ | with_reducible exact Gro.refl_drew _ _ _ | with_reducible exact Gro.refl_drewN _ _ _ _ | assumption | with_reducible apply Gro.more | with_reducible apply Gro.alloc | with_reducible apply Gro.drew | with_reducible apply Gro.drewN)); done))).mono ?_); rintro e W4 ⟨A4, c4, fs, rfl, hfs, hfl, hC4, hS4, hF4⟩; have hb4 := blk_only hb3.out (by repeat (first | with_reducible exact Gro.refl _ | with_reducible exact Gro.refl_drew _ _ _ | with_reducible exact Gro.refl_drewN _ _ _ _ | assumption | with_reducible apply Gro.more | with_reducible apply Gro.alloc | with_reducible apply Gro.drew | with_reducible apply Gro.drewN)) hS4 (by omega); obtain ⟨r0, r1, rf0, rf1, rl⟩ := box2 hb4; (try (have hg5 : W4.heap[wr.heap.size]? = some (.cells #[.int .i64 1, .int .i64 1, .int .i64 2, .int .i64 5, .int .i64 40] 3 (0, 0)) := (hS4.block _ (by simp) (by simp; omega)).trans (heap_alloc_new wr _))))
        | (go_simp; go_at_call 31; have hR5 := ints_blk (n := 5) hg5 [1, 1, 2, 5, 40] rfl rfl hI (by decide); (with_reducible refine (pick_s (hC4.more (by (repeat (first | with_reducible exact Gro.refl _ | with_reducible exact Gro.refl_drew _ _ _ | with_reducible exact Gro.refl_drewN _ _ _ _ | assumption | with_reducible apply Gro.more | with_reducible apply Gro.alloc | with_reducible apply Gro.drew | with_reducible apply Gro.drewN)); done)) (xs := [1, 1, 2, 5, 40]) (Ty.up _ hR5 (by repeat (first | with_reducible exact Gro.refl _ | with_reducible exact Gro.refl_drew _ _ _ | with_reducible exact Gro.refl_drewN _ _ _ _ | assumption | with_reducible apply Gro.more | with_reducible apply Gro.alloc | with_reducible apply Gro.drew | with_reducible apply Gro.drewN))) (fun ad h => by injection h with h; subst h; simp; omega) (by omega) (by omega)).mono ?_); rintro e W5 ⟨n, rfl, hn, hC5, hS5⟩; have hb5 := blk_only hb4 (by repeat (first | with_reducible exact Gro.refl _ | with_reducible exact Gro.refl_drew _ _ _ | with_reducible exact Gro.refl_drewN _ _ _ _ | assumption | with_reducible apply Gro.more | with_reducible apply Gro.alloc | with_reducible apply Gro.drew | with_reducible apply Gro.drewN)) hS5 (by omega); obtain ⟨s0, s1, sf0, sf1, sl⟩ := box2 hb5)
        | (go_simp; go_at_call 31; have hk4 := hC4.lt; have hR5 := ints_blk (n := 5) (heap_alloc_new W4 (.cells #[.int .i64 1, .int .i64 1, .int .i64 2, .int .i64 5, .int .i64 40] 3)) [1, 1, 2, 5, 40] rfl rfl hI (by decide); (with_reducible refine (pick_s (hC4.more (by (repeat (first | with_reducible exact Gro.refl _ | with_reducible exact Gro.refl_drew _ _ _ | with_reducible exact Gro.refl_drewN _ _ _ _ | assumption | with_reducible apply Gro.more | with_reducible apply Gro.alloc | with_reducible apply Gro.drew | with_reducible apply Gro.drewN)); done)) (xs := [1, 1, 2, 5, 40]) (Ty.up _ hR5 (by repeat (first | with_reducible exact Gro.refl _ | with_reducible exact Gro.refl_drew _ _ _ | with_reducible exact Gro.refl_drewN _ _ _ _ | assumption | with_reducible apply Gro.more | with_reducible apply Gro.alloc | with_reducible apply Gro.drew | with_reducible apply Gro.drewN))) (fun ad h => by injection h with h; subst h; simp; omega) (by omega) (by omega)).mono ?_); rintro e W5 ⟨n, rfl, hn, hC5, hS5⟩; have hb5 := blk_only hb4 (by repeat (first | with_reducible exact Gro.refl _ | with_reducible exact Gro.refl_drew _ _ _ | with_reducible exact Gro.refl_drewN _ _ _ _ | assumption | with_reducible apply Gro.more | with_reducible apply Gro.alloc | with_reducible apply Gro.drew | with_reducible apply Gro.drewN)) hS5 (by omega); obtain ⟨s0, s1, sf0, sf1, sl⟩ := box2 hb5)
        | (go_simp; go_at_call 29; have hSS : OnlyS [k] wr W5 := (Gro.only (by repeat (first | with_reducible exact Gro.refl _ | with_reducible exact Gro.refl_drew _ _ _ | with_reducible exact Gro.refl_drewN _ _ _ _ | assumption | with_reducible apply Gro.more | with_reducible apply Gro.alloc | with_reducible apply Gro.drew | with_reducible apply Gro.drewN)) _).trans (hS4.trans ((Gro.only (by repeat (first | with_reducible exact Gro.refl _ | with_reducible exact Gro.refl_drew _ _ _ | with_reducible exact Gro.refl_drewN _ _ _ _ | assumption | with_reducible apply Gro.more | with_reducible apply Gro.alloc | with_reducible apply Gro.drew | with_reducible apply Gro.drewN)) _).trans hS5)); have hFp := hF3.only hSS (by omega); have hs4 := hS4.size; have hFs := (hF4.gro (w2 := _) (by (repeat (first | with_reducible exact Gro.refl _ | with_reducible exact Gro.refl_drew _ _ _ | with_reducible exact Gro.refl_drewN _ _ _ _ | assumption | with_reducible apply Gro.more | with_reducible apply Gro.alloc | with_reducible apply Gro.drew | with_reducible apply Gro.drewN)); done)).only hS5 (by first | omega | (simp; omega)); have hnb : 0 ≤ n ∧ n ≤ 40 := (by simp at hn; omega); obtain ⟨q, hq⟩ := addStack_yes hpok.out hnb.1 hfs.1 hfs.2 (by omega); (with_reducible refine (addStack_s (p := p) (l := fs) (n := n) (Ty.up _ (rdProf hFp.read).1 (by repeat (first | with_reducible exact Gro.refl _ | with_reducible exact Gro.refl_drew _ _ _ | with_reducible exact Gro.refl_drewN _ _ _ _ | assumption | with_reducible apply Gro.more | with_reducible apply Gro.alloc | with_reducible apply Gro.drew | with_reducible apply Gro.drewN))) (Ty.up _ (rdProf hFp.read).2 (by repeat (first | with_reducible exact Gro.refl _ | with_reducible exact Gro.refl_drew _ _ _ | with_reducible exact Gro.refl_drewN _ _ _ _ | assumption | with_reducible apply Gro.more | with_reducible apply Gro.alloc | with_reducible apply Gro.drew | with_reducible apply Gro.drewN))) (Ty.up _ hFs.read (by repeat (first | with_reducible exact Gro.refl _ | with_reducible exact Gro.refl_drew _ _ _ | with_reducible exact Gro.refl_drewN _ _ _ _ | assumption | with_reducible apply Gro.more | with_reducible apply Gro.alloc | with_reducible apply Gro.drew | with_reducible apply Gro.drewN))) (by omega) (by omega) (by omega)).mono ?_); rw [hq]; rintro e W6 ⟨A6, c6, A7, c7, rfl, hF6, os6, d6, rfl⟩))
      all_goals go_wp2_with (fail)
      all_goals go_roundw
      all_goals try (case measure => simp [intOf]; omega)
      all_goals
        have hqs := addStack_spec hq
        have hqt := addStack_total hq
        have hql := addStack_len p fs n
        rw [hq] at hql
        have hqc := pOk_len hqs.2.1
        have h2 := set2 hb5 (.slice A6 q.Stacks.Nodes.length c6) (.slice A7 q.Counts.length c7)
        have t4 := blk_only hb2.out (by repeat (first | with_reducible exact Gro.refl _ | with_reducible exact Gro.refl_drew _ _ _ | with_reducible exact Gro.refl_drewN _ _ _ _ | assumption | with_reducible apply Gro.more | with_reducible apply Gro.alloc | with_reducible apply Gro.drew | with_reducible apply Gro.drewN)) hS4 (by omega)
        have t5 := blk_only t4 (by repeat (first | with_reducible exact Gro.refl _ | with_reducible exact Gro.refl_drew _ _ _ | with_reducible exact Gro.refl_drewN _ _ _ _ | assumption | with_reducible apply Gro.more | with_reducible apply Gro.alloc | with_reducible apply Gro.drew | with_reducible apply Gro.drewN)) hS5 (by omega)
        have hz5 := h2.2.size
        have hbl : Below W.heap.size W5 (gro ((W5.setCell ⟨W.heap.size + 1, 0, none⟩ (.slice A6 q.Stacks.Nodes.length c6)).setCell ⟨W.heap.size + 1, 1, none⟩ (.slice A7 q.Counts.length c7)) os6 d6) := (only_below h2.2 (by omega) sl).trans ((Gro.of _ _ _).below.mono (by omega))
        simp only at hql
        refine ⟨j - 1, q, A6, c6, A7, c7, by go_num, by omega, Lib.hid hqs.2.1, by omega, by omega, by omega, (hC5.only h2.2 (by simp; omega) (fun b hb => by simp at hb; omega)).more (Gro.of _ _ _), (hS3.trans hSS).below hbl (Nat.le_refl _), by have := hbl.size; omega, Lib.hid ?_, Lib.hid ?_, ?_⟩
        · exact (gro_get _ _ _ (by omega)).trans ((h2.2.block W.heap.size (by omega) (by simp)).trans t5)
        · exact (gro_get _ _ _ (by omega)).trans h2.1
        · exact ((hF6.frN.same (Same.base (by simp) (Nat.le_refl _))).wide (by first | omega | (simp; omega)) (by simp))
    · obtain rfl : j = 0 := by omega
      obtain ⟨y0, y1, yf0, yf1, yl⟩ := box2 hb2.out
      go_wp2_with (fail)
      have h2 := set2 hb2.out (.slice A0 p.Stacks.Nodes.length c0) (.slice A1 p.Counts.length c1)
      have ha := box2 h2.1
      refine bodyPost_ret (v := .agg #[.slice A0 p.Stacks.Nodes.length c0, .slice A1 p.Counts.length c1]) (by simp [results, Tryz.results13, go_sem, ha]) rfl ⟨p, A0, c0, A1, c1, rfl, ⟨hpok.out, by omega, by omega⟩, hC3.only h2.2 (by simp; omega) (fun b hb => by simp at hb; omega), hS3.below (only_below h2.2 (Nat.le_refl _) yl) (Nat.le_refl _), (hF3.only h2.2 (by omega)).wide (by omega) h2.2.size⟩
set_option maxRecDepth 100000 in
set_option maxHeartbeats 8000000 in
theorem profs_s {w : World} {A : Option Addr} {n c : Nat} {xs : List UInt8} (hx : (byteT.sl 5).R w w.heap.size [.slice A n c] xs) (hl : xs.length ≤ 1099511627776) : Calls Tryz.prog 5 #[.slice A n c] w fun e W' => ∃ (p q : DProfile) (A0 : Option Addr) (c0 : Nat) (A1 : Option Addr) (c1 : Nat) (A2 : Option Addr) (c2 : Nat) (A3 : Option Addr) (c3 : Nat), e = .returned (.tuple #[.agg #[.slice A0 p.Stacks.Nodes.length c0, .slice A1 p.Counts.length c1], .agg #[.slice A2 q.Stacks.Nodes.length c2, .slice A3 q.Counts.length c3]]) ∧ dp p ∧ dp q ∧ Gro w W' ∧ tProfile.R W' W'.heap.size [.slice A0 p.Stacks.Nodes.length c0, .slice A1 p.Counts.length c1] p ∧ tProfile.R W' W'.heap.size [.slice A2 q.Stacks.Nodes.length c2, .slice A3 q.Counts.length c3] q := by
  go_enter Tryz.func5, Tryz.ntmps5
  go_wp2_with (fail)
  refine (new_s (Ty.up _ hx (by repeat (first | with_reducible exact Gro.refl _ | with_reducible exact Gro.refl_drew _ _ _ | with_reducible exact Gro.refl_drewN _ _ _ _ | assumption | with_reducible apply Gro.more | with_reducible apply Gro.alloc | with_reducible apply Gro.drew | with_reducible apply Gro.drewN))) hl).mono ?_
  rintro e W1 ⟨k, rfl, hC1⟩
  have hk1 := hC1.lt
  have hlo := hC1.lo
  simp at hlo
  have e2 : W1.heap[w.heap.size]? = some (.cells #[.slice none 0 0, .slice none 0 0] 29 (0, 0)) := (hC1.gro.block (by simp; omega)).trans ((((Gro.refl _).alloc _).block (by simp)).trans (heap_alloc_new w _))
  have e3 : W1.heap[w.heap.size + 1]? = some (.cells #[.slice none 0 0, .slice none 0 0] 29 (0, 0)) := (hC1.gro.block (by simp)).trans (by have := heap_alloc_new (w.alloc (.cells #[.slice none 0 0, .slice none 0 0] 29)) (.cells #[.slice none 0 0, .slice none 0 0] 29); simpa using this)
  go_wp2_with (fail)
  refine (prof_s hC1).mono ?_
  rintro e W2 ⟨p, A0, c0, A1, c1, rfl, hp, hC2, hS2, hF2⟩
  have hk2 := hC2.lt
  have hz2 := hS2.size
  have f2 := blk_only e2 (Gro.refl _) hS2 (by omega)
  have f3 := blk_only e3 (Gro.refl _) hS2 (by omega)
  go_wp2_with (fail)
  go_region_law (first
    | (go_simp; go_at_call 13; (with_reducible refine (prof_s (hC2.more (by (repeat (first | with_reducible exact Gro.refl _ | with_reducible exact Gro.refl_drew _ _ _ | with_reducible exact Gro.refl_drewN _ _ _ _ | assumption | with_reducible apply Gro.more | with_reducible apply Gro.alloc | with_reducible apply Gro.drew | with_reducible apply Gro.drewN)); done))).mono ?_); rintro e W3 ⟨q, A2, c2, A3, c3, rfl, hq, hC3, hS3, hF3⟩; have g2 := blk_only f2 (by repeat (first | with_reducible exact Gro.refl _ | with_reducible exact Gro.refl_drew _ _ _ | with_reducible exact Gro.refl_drewN _ _ _ _ | assumption | with_reducible apply Gro.more | with_reducible apply Gro.alloc | with_reducible apply Gro.drew | with_reducible apply Gro.drewN)) hS3 (by omega); have g3 := blk_only f3 (by repeat (first | with_reducible exact Gro.refl _ | with_reducible exact Gro.refl_drew _ _ _ | with_reducible exact Gro.refl_drewN _ _ _ _ | assumption | with_reducible apply Gro.more | with_reducible apply Gro.alloc | with_reducible apply Gro.drew | with_reducible apply Gro.drewN)) hS3 (by omega); have g5 := blk_only (heap_alloc_new W2 (.cells #[.slice A0 p.Stacks.Nodes.length c0, .slice A1 p.Counts.length c1] 29)) (by repeat (first | with_reducible exact Gro.refl _ | with_reducible exact Gro.refl_drew _ _ _ | with_reducible exact Gro.refl_drewN _ _ _ _ | assumption | with_reducible apply Gro.more | with_reducible apply Gro.alloc | with_reducible apply Gro.drew | with_reducible apply Gro.drewN)) hS3 (by omega); obtain ⟨r0, r1, rf0, rf1, rl⟩ := box2 g2; obtain ⟨s0, s1, sf0, sf1, sl⟩ := box2 g3; obtain ⟨t0, t1, tf0, tf1, tl⟩ := box2 g5; have hz3 := hS3.size; have hFp := (hF2.gro (w2 := _) (by (repeat (first | with_reducible exact Gro.refl _ | with_reducible exact Gro.refl_drew _ _ _ | with_reducible exact Gro.refl_drewN _ _ _ _ | assumption | with_reducible apply Gro.more | with_reducible apply Gro.alloc | with_reducible apply Gro.drew | with_reducible apply Gro.drewN)); done)).only hS3 (by omega)))
  all_goals go_wp2_with (fail)
  all_goals first
    | (have hne : w.heap.size ≠ w.heap.size + 1 := by omega
       have h2 := set2 g2 (.slice A0 p.Stacks.Nodes.length c0) (.slice A1 p.Counts.length c1)
       have h3 := set2 ((h2.2.block (w.heap.size + 1) (by omega) (by simp)).trans g3) (.slice A2 q.Stacks.Nodes.length c2) (.slice A3 q.Counts.length c3)
       have hx := box2 ((h3.2.block (w.heap.size) (by have := h2.2.size; omega) (by simp)).trans h2.1)
       have hy := box2 h3.1
       have hon : OnlyS [w.heap.size, w.heap.size + 1] W3 _ := (h2.2.mono (fun b hb => by simp at hb; simp [hb])).trans (h3.2.mono (fun b hb => by simp at hb; simp [hb]))
       have hwl : w.heap.size + 2 ≤ W1.heap.size := by omega
       have hpr := (hFp.onlyL hon (by intro b hb; simp at hb; omega)).read
       have hqr := (hF3.onlyL hon (by intro b hb; simp at hb; simp; omega)).read
       refine bodyPost_ret (v := .tuple #[.agg #[.slice A0 p.Stacks.Nodes.length c0, .slice A1 p.Counts.length c1], .agg #[.slice A2 q.Stacks.Nodes.length c2, .slice A3 q.Counts.length c3]]) (by simp [results, Tryz.results5, go_sem, hx, hy]) rfl ⟨p, q, A0, c0, A1, c1, A2, c2, A3, c3, rfl, hp, hq, hon.gro ?_ (by intro b hb; simp at hb; omega), hpr, hqr⟩
       exact Gro.trans ((Gro.refl w).alloc _ |>.alloc _) hC3.gro)
    | (have hne : w.heap.size ≠ w.heap.size + 1 := by omega
       have h2 := set2 g3 (.slice A2 q.Stacks.Nodes.length c2) (.slice A3 q.Counts.length c3)
       have h3 := set2 ((h2.2.block (w.heap.size) (by omega) (by simp)).trans g2) (.slice A0 p.Stacks.Nodes.length c0) (.slice A1 p.Counts.length c1)
       have hx := box2 ((h3.2.block (w.heap.size + 1) (by have := h2.2.size; omega) (by simp)).trans h2.1)
       have hy := box2 h3.1
       have hon : OnlyS [w.heap.size, w.heap.size + 1] W3 _ := (h2.2.mono (fun b hb => by simp at hb; simp [hb])).trans (h3.2.mono (fun b hb => by simp at hb; simp [hb]))
       have hwl : w.heap.size + 2 ≤ W1.heap.size := by omega
       have hpr := (hFp.onlyL hon (by intro b hb; simp at hb; omega)).read
       have hqr := (hF3.onlyL hon (by intro b hb; simp at hb; simp; omega)).read
       refine bodyPost_ret (v := .tuple #[.agg #[.slice A0 p.Stacks.Nodes.length c0, .slice A1 p.Counts.length c1], .agg #[.slice A2 q.Stacks.Nodes.length c2, .slice A3 q.Counts.length c3]]) (by simp [results, Tryz.results5, go_sem, hx, hy]) rfl ⟨p, q, A0, c0, A1, c1, A2, c2, A3, c3, rfl, hp, hq, hon.gro ?_ (by intro b hb; simp at hb; omega), hpr, hqr⟩
       exact Gro.trans ((Gro.refl w).alloc _ |>.alloc _) hC3.gro)
end Go.Proofs.YtcomafmiclkmhaaGreatDoor
namespace Go.Proofs.YtcomafmiclkmhaaGreatDoor
open Go.RowKit
theorem flatten_le {α : Type} (f : α → List UInt8) (k : Nat) : ∀ l : List α, (∀ x ∈ l, (f x).length ≤ k) → (l.map f).flatten.length ≤ l.length * k
  | [], _ => by simp
  | x :: l, h => by
    have h1 := flatten_le f k l (fun y hy => h y (List.mem_cons_of_mem _ hy))
    have h2 := h x List.mem_cons_self
    simp only [List.map_cons, List.flatten_cons, List.length_append, List.length_cons, Nat.add_mul, Nat.one_mul]
    omega
theorem encP_size {p : DProfile} (h : profileOk p = true) : (encP p).size ≤ 12 + p.Stacks.Nodes.length * 38 := by
  have hnl := namesOf_len p
  unfold encP
  rw [if_pos h, size_of]
  have h1 := flatten_le (fun s : ByteArray => (packT s).data.toList) 14 (namesOf p) (fun s hs => by
    have h2 := packT_size s
    have h3 := names_size h hs
    rw [llen]
    omega)
  have h2 := flatten_le (rowB (namesOf p)) 24 (p.Stacks.Nodes.zip p.Counts) (fun x hx => by
    simp only [rowB, List.length_append]
    have a1 := encV_llen (x.1.Parent + 1)
    have a2 := encV_llen (idxV (namesOf p) x.1.Frame.Name)
    have a3 := encV_llen x.1.Frame.Line
    have a4 := encV_llen x.2
    omega)
  have h3 := encV_llen (p.Stacks.Nodes.length : Int)
  have h4 := encV_llen ((namesOf p).length : Int)
  have h5 : (p.Stacks.Nodes.zip p.Counts).length ≤ p.Stacks.Nodes.length := by rw [List.length_zip]; omega
  have h6 : (p.Stacks.Nodes.zip p.Counts).length * 24 ≤ p.Stacks.Nodes.length * 24 := Nat.mul_le_mul_right _ h5
  have h7 : (namesOf p).length * 14 ≤ p.Stacks.Nodes.length * 14 := Nat.mul_le_mul_right _ hnl
  simp only [headL, rowsL, List.length_append]
  omega
theorem stored_all {p q : DProfile} (hp : dp p) (hq : dp q) : ∃ (a b n : DProfile) (s S T s2 : ByteArray) (ns : List ByteArray),
    tidyP p = a ∧ tidyP q = b ∧ encP p = s ∧ encP a = S ∧ encP b = T ∧ s ++ ⟨#[0]⟩ = s2 ∧ decP s = (p, true) ∧ decP s2 = (n, false) ∧ decide (S = T) = sameP p q ∧ sameP p p = true ∧ sameP a p = true ∧ namesOf p = ns ∧
    (∀ (k : Nat) (x y : ByteArray), ns[k]? = some x → ns[k + 1]? = some y → bl x < bl y) ∧
    ns.length ≤ 28 ∧ s.size ≤ 1100 ∧ s2.size ≤ 1101 ∧ p.Stacks.Nodes.length ≤ 28 ∧ q.Stacks.Nodes.length ≤ 28 ∧ p.Counts.length ≤ 28 ∧ a.Stacks.Nodes.length ≤ 784 ∧ b.Stacks.Nodes.length ≤ 784 ∧ a.Counts.length ≤ 784 ∧ b.Counts.length ≤ 784 ∧ frSum (entriesOf p) ≤ 784 ∧ frSum (entriesOf q) ≤ 784 := by
  obtain ⟨p1, p2, p3⟩ := hp
  obtain ⟨q1, q2, q3⟩ := hq
  obtain ⟨_, a1, a2, a3⟩ := back_ents p1
  obtain ⟨_, b1, b2, b3⟩ := back_ents q1
  have lp := profR_len (entriesOf p)
  have lq := profR_len (entriesOf q)
  have fp : frSum (entriesOf p) ≤ 784 := Nat.le_trans (frSum_ents p) (Nat.mul_le_mul p3 p3)
  have fq : frSum (entriesOf q) ≤ 784 := Nat.le_trans (frSum_ents q) (Nat.mul_le_mul q3 q3)
  have pc := pOk_len p1
  have h1 := encP_size p1
  have hnl := namesOf_len p
  have hsz : (encP p ++ (⟨#[0]⟩ : ByteArray)).size = (encP p).size + 1 := by rw [ByteArray.size_append]; rfl
  have hm := decP_more p1 (by omega) (t := ⟨#[0]⟩) (by decide)
  refine ⟨tidyP p, tidyP q, (decP (encP p ++ ⟨#[0]⟩)).1, encP p, encP (tidyP p), encP (tidyP q), encP p ++ ⟨#[0]⟩, namesOf p, rfl, rfl, rfl, rfl, rfl, rfl, decP_enc p1 (by omega), ?_, ?_, ?_, ?_, rfl, fun k x y hx hy => ?_, by omega, by omega, by omega, p3, q3, by omega, ?_, ?_, ?_, ?_, fp, fq⟩
  · rw [← hm]
  · unfold sameP
    rw [p1, q1, Bool.true_and, Bool.true_and]
    by_cases he : entriesOf p = entriesOf q
    · rw [decide_eq_true he, decide_eq_true]
      unfold tidyP
      rw [he]
    · rw [decide_eq_false he, decide_eq_false]
      intro h
      have := encP_inj (p := tidyP p) (q := tidyP q) a1 b1 (by unfold tidyP; omega) (by unfold tidyP; omega) h
      unfold tidyP at this
      rw [this, b2] at a2
      exact he a2.symm
  · unfold sameP
    rw [p1]
    simp
  · unfold sameP
    rw [p1]
    unfold tidyP
    rw [a1, a2]
    simp
  · have hs := namesOf_sorted p
    have e1 : ((namesOf p).map bl)[k]? = some (bl x) := by rw [List.getElem?_map, hx]; rfl
    have e2 : ((namesOf p).map bl)[k + 1]? = some (bl y) := by rw [List.getElem?_map, hy]; rfl
    obtain ⟨l1, g1⟩ := List.getElem?_eq_some_iff.1 e1
    obtain ⟨l2, g2⟩ := List.getElem?_eq_some_iff.1 e2
    have := List.pairwise_iff_getElem.1 hs k (k + 1) l1 l2 (by omega)
    rw [g1, g2] at this
    exact this
  all_goals
    unfold tidyP
    omega
end Go.Proofs.YtcomafmiclkmhaaGreatDoor
namespace Go.Proofs.YtcomafmiclkmhaaGreatDoor
open Go.RowKit
/-- a profile's box -/
structure PB (W : World) (n : Nat) (p : DProfile) (A0 : Option Addr) (c0 : Nat) (A1 : Option Addr) (c1 : Nat) : Prop where
  blk : W.heap[n]? = some (.cells #[.slice A0 p.Stacks.Nodes.length c0, .slice A1 p.Counts.length c1] 29 (0, 0))
  rd : tProfile.R W W.heap.size [.slice A0 p.Stacks.Nodes.length c0, .slice A1 p.Counts.length c1] p
theorem PB.up {W W' : World} {n : Nat} {p : DProfile} {A0 : Option Addr} {c0 : Nat} {A1 : Option Addr} {c1 : Nat} (h : PB W n p A0 c0 A1 c1) (hg : Gro W W') : PB W' n p A0 c0 A1 c1 := ⟨grow_blk h.blk hg, Ty.up _ h.rd hg⟩
theorem PB.new {X : World} {p : DProfile} {A0 : Option Addr} {c0 : Nat} {A1 : Option Addr} {c1 : Nat} (h : tProfile.R X X.heap.size [.slice A0 p.Stacks.Nodes.length c0, .slice A1 p.Counts.length c1] p) {n : Nat} (hn : X.heap.size = n) :
    PB (X.alloc (.cells #[.slice A0 p.Stacks.Nodes.length c0, .slice A1 p.Counts.length c1] 29)) n p A0 c0 A1 c1 := by
  subst hn
  exact ⟨heap_alloc_new X _, Ty.up _ h ((Gro.refl _).alloc _)⟩
theorem PB.cells {W : World} {n : Nat} {p : DProfile} {A0 : Option Addr} {c0 : Nat} {A1 : Option Addr} {c1 : Nat} (h : PB W n p A0 c0 A1 c1) : W.cell? ⟨n, 0, none⟩ = some (.slice A0 p.Stacks.Nodes.length c0) ∧ W.cell? ⟨n, 1, none⟩ = some (.slice A1 p.Counts.length c1) ∧ n < W.heap.size := by
  obtain ⟨h0, h1, _, _, h2⟩ := box2 h.blk
  exact ⟨h0, h1, h2⟩
theorem PB.nodes {W : World} {n : Nat} {p : DProfile} {A0 : Option Addr} {c0 : Nat} {A1 : Option Addr} {c1 : Nat} (h : PB W n p A0 c0 A1 c1) : (tNode.sl 48).R W W.heap.size [.slice A0 p.Stacks.Nodes.length c0] p.Stacks.Nodes := (rdProf h.rd).1
theorem PB.counts {W : World} {n : Nat} {p : DProfile} {A0 : Option Addr} {c0 : Nat} {A1 : Option Addr} {c1 : Nat} (h : PB W n p A0 c0 A1 c1) : (intT.sl 3).R W W.heap.size [.slice A1 p.Counts.length c1] p.Counts := (rdProf h.rd).2
/-- a literal list of three profiles -/
theorem three_R {W : World} {g : Nat} {p q r : DProfile} {A0 A1 A2 A3 A4 A5 : Option Addr} {c0 c1 c2 c3 c4 c5 : Nat} (hg : W.heap[g]? = some (.cells #[.slice A0 p.Stacks.Nodes.length c0, .slice A1 p.Counts.length c1, .slice A2 q.Stacks.Nodes.length c2, .slice A3 q.Counts.length c3, .slice A4 r.Stacks.Nodes.length c4, .slice A5 r.Counts.length c5] 29 (0, 0)))
    (hp : tProfile.R W W.heap.size [.slice A0 p.Stacks.Nodes.length c0, .slice A1 p.Counts.length c1] p) (hq : tProfile.R W W.heap.size [.slice A2 q.Stacks.Nodes.length c2, .slice A3 q.Counts.length c3] q) (hr : tProfile.R W W.heap.size [.slice A4 r.Stacks.Nodes.length c4, .slice A5 r.Counts.length c5] r) :
    (tProfile.sl 29).R W W.heap.size [.slice (some ⟨g, 0, none⟩) ([p, q, r] : List DProfile).length 3] [p, q, r] := by
  refine ⟨_, 3, rfl, by simp, by omega, by simp, fun _ => ⟨g, 0, rfl, (Array.getElem?_eq_some_iff.1 hg).1, fun i x hx => ?_⟩⟩
  have hc : ∀ j, W.cell? ⟨g, j, none⟩ = (#[Value.slice A0 p.Stacks.Nodes.length c0, .slice A1 p.Counts.length c1, .slice A2 q.Stacks.Nodes.length c2, .slice A3 q.Counts.length c3, .slice A4 r.Stacks.Nodes.length c4, .slice A5 r.Counts.length c5] : Array Value)[j]? := fun j => cell_of_row W g _ _ _ (0, 0) hg
  have hs : tProfile.size = 2 := rfl
  match i, hx with
  | 0, hx =>
    simp only [List.getElem?_cons_zero, Option.some.injEq] at hx
    subst hx
    refine ⟨_, hp, fun j u hu => ?_⟩
    rw [hc, hs]
    match j, hu with
    | 0, hu => simpa using hu
    | 1, hu => simpa using hu
    | j + 2, hu => simp at hu
  | 1, hx =>
    simp only [List.getElem?_cons_succ, List.getElem?_cons_zero, Option.some.injEq] at hx
    subst hx
    refine ⟨_, hq, fun j u hu => ?_⟩
    rw [hc, hs]
    match j, hu with
    | 0, hu => simpa using hu
    | 1, hu => simpa using hu
    | j + 2, hu => simp at hu
  | 2, hx =>
    simp only [List.getElem?_cons_succ, List.getElem?_cons_zero, Option.some.injEq] at hx
    subst hx
    refine ⟨_, hr, fun j u hu => ?_⟩
    rw [hc, hs]
    match j, hu with
    | 0, hu => simpa using hu
    | 1, hu => simpa using hu
    | j + 2, hu => simp at hu
  | i + 3, hx => simp at hx
end Go.Proofs.YtcomafmiclkmhaaGreatDoor
namespace Go.Proofs.YtcomafmiclkmhaaGreatDoor
open Go.RowKit
theorem returns_and_shaped {H : Type} {enc : TypeId × Value → H} {a : Assume} {C : Checked} {os : Os} {f : FuncId} {fn : Func} {s : ChangeSpec} {conds : List PathCond} {apart fresh handsOn again : Bool} {X : World → Array Value → Prop}
    (hX : ∀ (w w' : World) (args : Array Value), w.heap = w'.heap → X w args → X w' args)
    (own : ownKnob C.prog.godebug = none) (started : os.Started) (noInit : C.prog.inits.idxOf? f = none) (hfn : C.prog.funcs[f]? = some fn)
    (witness : ∃ (w : World) (tape : Tape) (i : Input), w.os = os ∧ (w.forCall tape i).Shaped C.prog ∧ i.vars = [] ∧ Input.okWide C.prog (w.forCall tape i) .any w.heap.size f i ∧
      ((s.pre enc C.prog fn conds apart (w.forCall tape i).memory i.args ∧ X (w.forCall tape i).memory i.args) ∧ sizedMet enc C.prog fn (OpenSpec.ofChange s) apart (w.forCall tape i).memory i.args) ∧ a.holds C.prog (lone (Frame.enter C.prog f i.args .normal) [] (w.forCall tape i)))
    (contract : ∀ (W : World) (base : Nat) (args : Array Value) (ds gs : List (DataW H)) (before : List MemPlace),
      (∀ (j : Nat) t v, fn.params[j]? = some t → args[j]? = some v → Value.okWide C.prog W .any base t v) →
      DataW.Whole enc C.prog fn.params.toList s.vars apart W args.toList ds gs before →
      conds.all (PathCond.test C.prog ⟨fn.params.toList, ds, s.plain.varTypes C.prog, gs⟩) = true →
      (DataW.weightsEach C.prog (fn.params.toList ++ s.plain.varTypes C.prog) (ds ++ gs)).all (· ≤ reachBytes) = true → X W args → W.ShapedOpen C.prog →
      a.holds C.prog (lone (Frame.enter C.prog f args .normal) [] W) →
      Calls C.prog f args W fun e W' => ∃ v, e = .returned v ∧ s.post enc C.prog fn apart fresh handsOn again W args v W') :
    ReturnsInHanded a C os f .any (fun w args => (s.pre enc C.prog fn conds apart w args ∧ X w args) ∧ sizedMet enc C.prog fn (OpenSpec.ofChange s) apart w args) (s.post enc C.prog fn apart fresh handsOn again) := by
  refine returnsInHanded_of_calls own started noInit witness ?_
  intro w tape i _ hsh _ hok hpre hholds
  obtain ⟨_, _, _, fn', hfn', _, _, _, _, hval⟩ := hok
  have e : fn' = fn := Option.some.inj (hfn'.symm.trans hfn)
  subst e
  obtain ⟨⟨⟨ds, gs, before, hw, hc⟩, hx⟩, hz⟩ := hpre
  have hw' := DataW.Whole.of_heap (w' := w.forCall tape i) (by rfl) hw
  refine (contract (w.forCall tape i) w.heap.size i.args ds gs before hval hw' hc (hz.weights hw) (hX _ _ _ (by rfl) hx) hsh hholds).mono fun e W' ⟨v, he, hp⟩ => ?_
  subst he
  exact ChangeSpec.post_blind hp
theorem max_len {W : World} (h : W.ShapedOpen Tryz.prog) : ∃ m, W.cell? ⟨0, 0, none⟩ = some (.int .i64 m) := Tryz.laysM146.s1_3 W h
end Go.Proofs.YtcomafmiclkmhaaGreatDoor
namespace Go.Proofs.YtcomafmiclkmhaaGreatDoor
open Go.RowKit
theorem fresh_nilP (w W : World) : Fresh tProfile w W [.slice none 0 0, .slice none 0 0] nilP := by
  have h0 := Has.nil tNode 48 W
  have h1 := Has.nil intT 3 W
  exact ⟨[] ++ [], tProfile_mkO (x := nilP) none 0 [] none 0 [] h0.1 h1.1, by simp, by simp⟩
/-- the walk's state: the reader, the result's box, the profile's box and its two lists, the names -/
structure DSt (w W : World) (g gp : Nat) (s : ByteArray) (a : Nat) (bad : Bool) (ns : List ByteArray) (A0 : Option Addr) (c0 : Nat) (S0 : List Nat) (p : DProfile) (A2 : Option Addr) (c2 : Nat) (S2 : List Nat) (A3 : Option Addr) (c3 : Nat) (S3 : List Nat) : Prop where
  rd : Rd W (g + 1) s (a : Int) bad
  gro : Gro w W
  ret : W.heap[g]? = some (.cells #[.slice none 0 0, .slice none 0 0] 29 (0, 0))
  box : W.heap[gp]? = some (.cells #[.slice A2 p.Stacks.Nodes.length c2, .slice A3 p.Counts.length c3] 29 (0, 0))
  names : Has (strT.sl 9) W [.slice A0 ns.length c0] ns S0
  nodes : Has (tNode.sl 48) W [.slice A2 p.Stacks.Nodes.length c2] p.Stacks.Nodes S2
  counts : Has (intT.sl 3) W [.slice A3 p.Counts.length c3] p.Counts S3
  l0 : ∀ b ∈ S0, g + 1 < b ∧ b < gp
  l2 : ∀ b ∈ S2, gp < b
  l3 : ∀ b ∈ S3, gp < b
  d23 : ∀ b ∈ S2, b ∉ S3
  lt : g + 1 < gp
  wg : w.heap.size ≤ g
theorem DSt.to {w W W' : World} {g gp : Nat} {s : ByteArray} {a a' : Nat} {bad bad' : Bool} {ns : List ByteArray} {A0 : Option Addr} {c0 : Nat} {S0 : List Nat} {p : DProfile} {A2 : Option Addr} {c2 : Nat} {S2 : List Nat} {A3 : Option Addr} {c3 : Nat} {S3 L : List Nat} (h : DSt w W g gp s a bad ns A0 c0 S0 p A2 c2 S2 A3 c3 S3) (ho : OnlyS L W W') (hr : Rd W' (g + 1) s (a' : Int) bad')
    (hL : ∀ k ∈ L, k ≠ g ∧ k ≠ gp ∧ k ∉ S0 ∧ k ∉ S2 ∧ k ∉ S3 ∧ w.heap.size ≤ k) : DSt w W' g gp s a' bad' ns A0 c0 S0 p A2 c2 S2 A3 c3 S3 :=
  ⟨hr, ho.gro h.gro (fun k hk => (hL k hk).2.2.2.2.2), (ho.block g (Array.getElem?_eq_some_iff.1 h.ret).1 (fun hm => (hL g hm).1 rfl)).trans h.ret, (ho.block gp (Array.getElem?_eq_some_iff.1 h.box).1 (fun hm => (hL gp hm).2.1 rfl)).trans h.box,
    h.names.keep ho (fun b hb hm => (hL b hm).2.2.1 hb), h.nodes.keep ho (fun b hb hm => (hL b hm).2.2.2.1 hb), h.counts.keep ho (fun b hb hm => (hL b hm).2.2.2.2.1 hb), h.l0, h.l2, h.l3, h.d23, h.lt, h.wg⟩
theorem DSt.num {w W W' : World} {g gp : Nat} {s : ByteArray} {a a' : Nat} {bad bad' : Bool} {ns : List ByteArray} {A0 : Option Addr} {c0 : Nat} {S0 : List Nat} {p : DProfile} {A2 : Option Addr} {c2 : Nat} {S2 : List Nat} {A3 : Option Addr} {c3 : Nat} {S3 : List Nat} (h : DSt w W g gp s a bad ns A0 c0 S0 p A2 c2 S2 A3 c3 S3) (ho : OnlyS [g + 1] W W') (hr : Rd W' (g + 1) s (a' : Int) bad') : DSt w W' g gp s a' bad' ns A0 c0 S0 p A2 c2 S2 A3 c3 S3 :=
  h.to ho hr (fun k hk => by
    rw [List.mem_singleton] at hk
    subst hk
    have h1 := h.lt
    have h2 := h.wg
    exact ⟨by omega, by omega, fun hm => by have := h.l0 _ hm; omega, fun hm => by have := h.l2 _ hm; omega, fun hm => by have := h.l3 _ hm; omega, by omega⟩)
theorem DSt.more {w W W' : World} {g gp : Nat} {s : ByteArray} {a : Nat} {bad : Bool} {ns : List ByteArray} {A0 : Option Addr} {c0 : Nat} {S0 : List Nat} {p : DProfile} {A2 : Option Addr} {c2 : Nat} {S2 : List Nat} {A3 : Option Addr} {c3 : Nat} {S3 : List Nat} (h : DSt w W g gp s a bad ns A0 c0 S0 p A2 c2 S2 A3 c3 S3) (hg : Gro W W') : DSt w W' g gp s a bad ns A0 c0 S0 p A2 c2 S2 A3 c3 S3 :=
  h.to (hg.only []) (h.rd.gro hg) (by simp)
/-- a node more -/
theorem DSt.push1 {w W W1 W4 : World} {g gp : Nat} {s : ByteArray} {a : Nat} {bad : Bool} {ns : List ByteArray} {A0 : Option Addr} {c0 : Nat} {S0 : List Nat} {p : DProfile} {A2 : Option Addr} {c2 : Nat} {S2 : List Nat} {A3 : Option Addr} {c3 : Nat} {S3 : List Nat} (h : DSt w W g gp s a bad ns A0 c0 S0 p A2 c2 S2 A3 c3 S3) (hg : Gro W W1) (hon : OnlyS S2 W1 W4) {A7 : Option Addr} {c7 : Nat} {S7 : List Nat} {x : DNode}
    (hH : Has (tNode.sl 48) W4 [.slice A7 (p.Stacks.Nodes.length + 1) c7] (p.Stacks.Nodes ++ [x]) S7) (hS : ∀ b ∈ S7, b ∈ S2 ∨ W1.heap.size ≤ b) : DSt w (W4.setCell ⟨gp, 0, none⟩ (.slice A7 (p.Stacks.Nodes.length + 1) c7)) g gp s a bad ns A0 c0 S0 ⟨⟨p.Stacks.Nodes ++ [x]⟩, p.Counts⟩ A7 c7 S7 A3 c3 S3 := by
  have h1 := h.more hg
  have hlt := h1.lt
  have hwg := h1.wg
  have hb1 := (Array.getElem?_eq_some_iff.1 h1.box).1
  have hgp : gp ∉ S2 := fun hm => by have := h1.l2 _ hm; omega
  have hg1 : g ∉ S2 := fun hm => by have := h1.l2 _ hm; omega
  have hk1 : g + 1 ∉ S2 := fun hm => by have := h1.l2 _ hm; omega
  have hl3 := h1.counts.lt
  have ho : OnlyS [gp] W4 (W4.setCell ⟨gp, 0, none⟩ (.slice A7 (p.Stacks.Nodes.length + 1) c7)) := (OnlyS.refl _ _).setCell (p := ⟨gp, 0, none⟩) (by simp) _
  have hb4 := (hon.block gp hb1 hgp).trans h1.box
  have h7 : ∀ b ∈ S7, gp < b := fun b hb => by
    rcases hS b hb with h | h
    · exact h1.l2 b h
    · omega
  refine ⟨(h1.rd.keep hon hk1).keep ho (by simp; omega), ho.gro (hon.gro h1.gro (fun b hb => by have := h1.l2 b hb; omega)) (fun b hb => by simp at hb; omega), ?_, by rw [List.length_append]; exact heap_setCell_at hb4 0 _, ?_, by rw [List.length_append]; exact hH.keep ho (fun b hb hm => by have := h7 b hb; simp at hm; omega), ?_, h1.l0, h7, h1.l3, fun b hb hm => ?_, hlt, hwg⟩
  · exact (ho.block g (Nat.lt_of_lt_of_le (Array.getElem?_eq_some_iff.1 h1.ret).1 hon.size) (by simp; omega)).trans ((hon.block g (Array.getElem?_eq_some_iff.1 h1.ret).1 hg1).trans h1.ret)
  · exact (h1.names.keep hon (fun b hb hm => by have := h1.l0 b hb; have := h1.l2 b hm; omega)).keep ho (fun b hb hm => by have := h1.l0 b hb; simp at hm; omega)
  · exact (h1.counts.keep hon (fun b hb hm => h1.d23 b hm hb)).keep ho (fun b hb hm => by have := h1.l3 b hb; simp at hm; omega)
  · rcases hS b hb with h | h
    · exact h1.d23 b h hm
    · have := hl3 b hm; omega
/-- a count more -/
theorem DSt.push2 {w W W1 W4 : World} {g gp : Nat} {s : ByteArray} {a : Nat} {bad : Bool} {ns : List ByteArray} {A0 : Option Addr} {c0 : Nat} {S0 : List Nat} {p : DProfile} {A2 : Option Addr} {c2 : Nat} {S2 : List Nat} {A3 : Option Addr} {c3 : Nat} {S3 : List Nat} (h : DSt w W g gp s a bad ns A0 c0 S0 p A2 c2 S2 A3 c3 S3) (hg : Gro W W1) (hon : OnlyS S3 W1 W4) {A7 : Option Addr} {c7 : Nat} {S7 : List Nat} {x : Int}
    (hH : Has (intT.sl 3) W4 [.slice A7 (p.Counts.length + 1) c7] (p.Counts ++ [x]) S7) (hS : ∀ b ∈ S7, b ∈ S3 ∨ W1.heap.size ≤ b) : DSt w (W4.setCell ⟨gp, 1, none⟩ (.slice A7 (p.Counts.length + 1) c7)) g gp s a bad ns A0 c0 S0 ⟨p.Stacks, p.Counts ++ [x]⟩ A2 c2 S2 A7 c7 S7 := by
  have h1 := h.more hg
  have hlt := h1.lt
  have hwg := h1.wg
  have hb1 := (Array.getElem?_eq_some_iff.1 h1.box).1
  have hgp : gp ∉ S3 := fun hm => by have := h1.l3 _ hm; omega
  have hg1 : g ∉ S3 := fun hm => by have := h1.l3 _ hm; omega
  have hk1 : g + 1 ∉ S3 := fun hm => by have := h1.l3 _ hm; omega
  have hl2 := h1.nodes.lt
  have ho : OnlyS [gp] W4 (W4.setCell ⟨gp, 1, none⟩ (.slice A7 (p.Counts.length + 1) c7)) := (OnlyS.refl _ _).setCell (p := ⟨gp, 1, none⟩) (by simp) _
  have hb4 := (hon.block gp hb1 hgp).trans h1.box
  have h7 : ∀ b ∈ S7, gp < b := fun b hb => by
    rcases hS b hb with h | h
    · exact h1.l3 b h
    · omega
  refine ⟨(h1.rd.keep hon hk1).keep ho (by simp; omega), ho.gro (hon.gro h1.gro (fun b hb => by have := h1.l3 b hb; omega)) (fun b hb => by simp at hb; omega), ?_, by rw [List.length_append]; exact heap_setCell_at hb4 1 _, ?_, ?_, by rw [List.length_append]; exact hH.keep ho (fun b hb hm => by have := h7 b hb; simp at hm; omega), h1.l0, h1.l2, h7, fun b hb hm => ?_, hlt, hwg⟩
  · exact (ho.block g (Nat.lt_of_lt_of_le (Array.getElem?_eq_some_iff.1 h1.ret).1 hon.size) (by simp; omega)).trans ((hon.block g (Array.getElem?_eq_some_iff.1 h1.ret).1 hg1).trans h1.ret)
  · exact (h1.names.keep hon (fun b hb hm => by have := h1.l0 b hb; have := h1.l3 b hm; omega)).keep ho (fun b hb hm => by have := h1.l0 b hb; simp at hm; omega)
  · exact (h1.nodes.keep hon (fun b hb hm => h1.d23 b hb hm)).keep ho (fun b hb hm => by have := h1.l2 b hb; simp at hm; omega)
  · rcases hS b hm with h | h
    · exact h1.d23 b hb h
    · have := hl2 b hb; omega
set_option maxRecDepth 100000 in
set_option maxHeartbeats 8000000 in
theorem decP_i (s : ByteArray) (w : World) (hs : s.size ≤ 1099511600000) : Calls Tryz.prog 7 #[.string s] w (RetProfileBool (decP s) w) := by
  have hs0 : s.size ≤ 1099511620000 := by omega
  obtain ⟨n0, z0, ok0, hd0⟩ : ∃ n z ok, decV s (0 : Nat) = (n, z, ok) := ⟨_, _, _, rfl⟩
  have hz0 : z0 ≤ s.size := by
    cases ok0 with
    | true => have := (decV_bd hd0).2.2.2.1; omega
    | false => rw [(decV_zero hd0).2]; omega
  have hn0b : n0 ≤ 1099511627775 := by
    cases ok0 with
    | true => exact (decV_bd hd0).2.2.2.2
    | false => rw [(decV_zero hd0).1]; omega
  have hn0 : ok0 = false → n0 = 0 := fun h => by subst h; exact (decV_zero hd0).1
  have HD0 := Lib.hid hd0
  have HN0 := Lib.hid hn0
  clear hd0 hn0
  go_enter Tryz.func7, Tryz.ntmps7
  go_wp2_with (fail)
  have hY : Gro w (((w.alloc (.cells #[.slice none 0 0, .slice none 0 0] 29)).alloc (.cells #[.string s, .int .i64 0, .bool false] 52)).alloc (.cells #[] 9)) := (by repeat (first | with_reducible exact Gro.refl _ | with_reducible exact Gro.refl_drew _ _ _ | with_reducible exact Gro.refl_drewN _ _ _ _ | assumption | with_reducible apply Gro.more | with_reducible apply Gro.alloc | with_reducible apply Gro.drew | with_reducible apply Gro.drewN))
  have er : (((w.alloc (.cells #[.slice none 0 0, .slice none 0 0] 29)).alloc (.cells #[.string s, .int .i64 0, .bool false] 52)).alloc (.cells #[] 9)).heap[w.heap.size]? = some (.cells #[.slice none 0 0, .slice none 0 0] 29 (0, 0)) := grow_blk (heap_alloc_new w _) (by (repeat (first | with_reducible exact Gro.refl _ | with_reducible exact Gro.refl_drew _ _ _ | with_reducible exact Gro.refl_drewN _ _ _ _ | assumption | with_reducible apply Gro.more | with_reducible apply Gro.alloc | with_reducible apply Gro.drew | with_reducible apply Gro.drewN)); done)
  have hrd0 : Rd (((w.alloc (.cells #[.slice none 0 0, .slice none 0 0] 29)).alloc (.cells #[.string s, .int .i64 0, .bool false] 52)).alloc (.cells #[] 9)) (w.heap.size + 1) s ((0 : Nat) : Int) false := ⟨grow_blk (show ((w.alloc (.cells #[.slice none 0 0, .slice none 0 0] 29)).alloc (.cells #[.string s, .int .i64 0, .bool false] 52)).heap[w.heap.size + 1]? = _ from by have h := heap_alloc_new (w.alloc (.cells #[.slice none 0 0, .slice none 0 0] 29)) (.cells #[.string s, .int .i64 0, .bool false] 52); rw [World.size_alloc] at h; exact h) (by (repeat (first | with_reducible exact Gro.refl _ | with_reducible exact Gro.refl_drew _ _ _ | with_reducible exact Gro.refl_drewN _ _ _ _ | assumption | with_reducible apply Gro.more | with_reducible apply Gro.alloc | with_reducible apply Gro.drew | with_reducible apply Gro.drewN)); done)⟩
  have en : (((w.alloc (.cells #[.slice none 0 0, .slice none 0 0] 29)).alloc (.cells #[.string s, .int .i64 0, .bool false] 52)).alloc (.cells #[] 9)).heap[w.heap.size + 1 + 1]? = some (.cells #[] 9 (0, 0)) := by have h := heap_alloc_new ((w.alloc (.cells #[.slice none 0 0, .slice none 0 0] 29)).alloc (.cells #[.string s, .int .i64 0, .bool false] 52)) (.cells #[] 9); rw [World.size_alloc, World.size_alloc] at h; exact h
  obtain ⟨g, hg⟩ : ∃ g, w.heap.size = g := ⟨_, rfl⟩
  rw [hg] at er hrd0 en ⊢
  generalize (((w.alloc (.cells #[.slice none 0 0, .slice none 0 0] 29)).alloc (.cells #[.string s, .int .i64 0, .bool false] 52)).alloc (.cells #[] 9)) = Y at hY er hrd0 en ⊢
  have hgY : g + 2 < Y.heap.size := (Array.getElem?_eq_some_iff.1 en).1
  refine (number_rd hrd0 hs0 (by omega)).mono ?_
  rw [HD0.out]
  rintro e W1 ⟨rfl, hrd1, hO1⟩
  have hrd1' : Rd W1 (g + 1) s (z0 : Int) (!ok0) := by simpa using hrd1
  have hH1 : Has (strT.sl 9) W1 [.slice (some ⟨g + 1 + 1, 0, none⟩) 0 0] [] [g + 1 + 1] := (Has.emp strT en).keep hO1 (fun b hb hm => by simp at hb hm; omega)
  have er1 := (hO1.block g (by omega) (by simp)).trans er
  have hG1 : Gro w W1 := hO1.gro hY (fun b hb => by simp at hb; omega)
  clear hrd1 hrd0 en er hY hO1 hgY
  go_wp2_with (fail)
  go_loopw [5, 6] (fun a b wr => ∃ (j at_ : Nat) (bad : Bool) (ns : List ByteArray) (A0 : Option Addr) (c0 : Nat) (S0 : List Nat), a = .slice A0 ns.length c0 ∧ b = .int .i64 j ∧ j ≤ 1099511627775 ∧ at_ ≤ s.size ∧ ns.length ≤ at_ + 1 ∧ (bad = false → ns.length ≤ at_) ∧ Hid (bad = false → ok0 = true ∧ rdNames s j at_ ns = rdNames s n0 z0 []) ∧ Hid (bad = true → rawP s = none) ∧ Rd wr (g + 1) s (at_ : Int) bad ∧ Gro w wr ∧ Hid (wr.heap[g]? = some (.cells #[.slice none 0 0, .slice none 0 0] 29 (0, 0))) ∧ Has (strT.sl 9) wr [.slice A0 ns.length c0] ns S0 ∧ Hid (∀ b ∈ S0, g + 1 < b)) (fun _ b _ => (intOf b).toNat)
  case atStart => exact ⟨n0, z0, !ok0, [], _, 0, [g + 1 + 1], rfl, rfl, hn0b, hz0, by simp, by simp, Lib.hid (fun h => ⟨by simpa using h, rfl⟩), Lib.hid (fun h => by
    have h0 : ok0 = false := by simpa using h
    have h1 := HD0.out
    rw [h0] at h1
    exact rawP_0 h1), hrd1', hG1, Lib.hid er1, hH1, Lib.hid (by simp)⟩
  case round =>
    clear hrd1' hH1 er1 hG1
    obtain ⟨j, at_, bad, ns, A0, c0, S0, rfl, rfl, hjb, hat, hnl, hnl2, hok, hbad, hrd, hG, hret, hH, hl0⟩ := hrel
    obtain ⟨q0, q1, q2, qf⟩ := hrd.cells
    have hkl := hrd.lt
    clear qf
    go_upto_region 4 with fail
    go_cut [25] from 17 to 26 (fun b wx => b = .bool (decide (0 < j) && !bad) ∧ wx = wr)
    case first =>
      by_cases hj : 0 < j
      · have hj2 : (0 : Int) < (j : Int) := by omega
        have hj3 : decide ((0 : Int) < (j : Int)) = true := decide_eq_true hj2
        go_wp2_with fail
        go_meet
        exact ⟨by rw [decide_eq_true hj]; simp, rfl⟩
      · have hj2 : ¬ (0 : Int) < (j : Int) := by omega
        have hj3 : decide ((0 : Int) < (j : Int)) = false := decide_eq_false hj2
        go_wp2_with fail
        go_meet
        exact ⟨by rw [decide_eq_false hj]; simp, rfl⟩
    case rest =>
      obtain ⟨rfl, rfl⟩ := hcut
      cases hgo : (decide (0 < j) && !bad)
      · have hj0 : bad = false → j = 0 := fun h => by
          subst h
          simp at hgo
          omega
        have hnm : Hid (bad = false → ok0 = true ∧ rdNames s n0 z0 [] = some (ns, at_)) := Lib.hid (fun h => by
          obtain ⟨h1, h2⟩ := hok.out h
          have h3 := hj0 h
          subst h3
          exact ⟨h1, by rw [← h2]; rfl⟩)
        obtain ⟨n2, z2, ok2, hd2⟩ : ∃ n z ok, decV s (at_ : Int) = (n, z, ok) := ⟨_, _, _, rfl⟩
        have hz2 : at_ + z2 ≤ s.size := by
          cases ok2 with
          | true => have := (decV_bd hd2).2.2.2.1; omega
          | false => rw [(decV_zero hd2).2]; omega
        have hn2b : n2 ≤ 1099511627775 := by
          cases ok2 with
          | true => exact (decV_bd hd2).2.2.2.2
          | false => rw [(decV_zero hd2).1]; omega
        have HB2 := Lib.hid (show (bad || !ok2) = true → rawP s = none from fun h => by
          cases bad with
          | true => exact hbad.out rfl
          | false =>
            obtain ⟨h1, h2⟩ := hnm.out rfl
            have h3 := HD0.out
            rw [h1] at h3
            have h4 : ok2 = false := by simpa using h
            subst h4
            exact rawP_2 h3 h2 hd2)
        have HN2 := Lib.hid (show (bad || !ok2) = false → rdNodes s ns n2 (at_ + z2) nilP = rawP s from fun h => by
          simp only [Bool.or_eq_false_iff, Bool.not_eq_false'] at h
          obtain ⟨rfl, rfl⟩ := h
          obtain ⟨h1, h2⟩ := hnm.out rfl
          have h3 := HD0.out
          rw [h1] at h3
          exact (rawP_ok h3 h2 hd2).symm)
        have HD2 := Lib.hid hd2
        clear hd2 hok hbad hnl2 hj0 hnm hgo q0 q1 q2 hjb
        go_wp2_with (fail)
        have hgl := (Array.getElem?_eq_some_iff.1 hret.out).1
        have hGV : Gro wc (wc.alloc (.cells #[.slice none 0 0, .slice none 0 0] 29)) := (by repeat (first | with_reducible exact Gro.refl _ | with_reducible exact Gro.refl_drew _ _ _ | with_reducible exact Gro.refl_drewN _ _ _ _ | assumption | with_reducible apply Gro.more | with_reducible apply Gro.alloc | with_reducible apply Gro.drew | with_reducible apply Gro.drewN))
        have egp := heap_alloc_new wc (.cells #[.slice none 0 0, .slice none 0 0] 29)
        have hrdV := hrd.gro hGV
        have hretV := grow_blk hret.out hGV
        have hHV := hH.gro hGV
        have hGwV := hG.trans hGV
        have hS0l := hH.lt
        obtain ⟨gp, hgp⟩ : ∃ gp, wc.heap.size = gp := ⟨_, rfl⟩
        have hgpl : gp < (wc.alloc (.cells #[.slice none 0 0, .slice none 0 0] 29)).heap.size := by rw [World.size_alloc, hgp]; omega
        have hggp : g + 1 < gp := by rw [← hgp]; exact hkl
        rw [hgp] at egp hS0l ⊢
        generalize (wc.alloc (.cells #[.slice none 0 0, .slice none 0 0] 29)) = V at egp hrdV hretV hHV hGwV hgpl ⊢
        clear hG hret hrd hH hkl hgl hGV
        refine (number_rd hrdV hs0 hat).mono ?_
        rw [HD2.out]
        rintro e W4 ⟨rfl, hrd4, hO4⟩
        have hr4 := (hO4.block g (by omega) (by simp)).trans hretV
        have eg4 := (hO4.block gp hgpl (by simp; omega)).trans egp
        have hH4 := hHV.keep hO4 (fun b hb hm => by have := hl0.out b hb; simp at hm; omega)
        have hG4 : Gro w W4 := hO4.gro hGwV (fun b hb => by simp at hb; omega)
        clear hrdV hretV hHV hGwV hO4 egp
        go_wp2_with (fail)
        go_loopw [8] (fun a wr => ∃ (j at_ : Nat) (bad : Bool) (p : DProfile) (A2 : Option Addr) (c2 : Nat) (A3 : Option Addr) (c3 : Nat) (S2 S3 : List Nat), a = .int .i64 j ∧ j ≤ 1099511627775 ∧ at_ ≤ s.size ∧ p.Stacks.Nodes.length ≤ at_ + 1 ∧ p.Counts.length ≤ at_ + 1 ∧ (bad = false → p.Stacks.Nodes.length ≤ at_ ∧ p.Counts.length ≤ at_) ∧ Hid (bad = false → rdNodes s ns j at_ p = rawP s) ∧ Hid (bad = true → rawP s = none) ∧ Rd wr (g + 1) s (at_ : Int) bad ∧ Gro w wr ∧ Hid (wr.heap[g]? = some (.cells #[.slice none 0 0, .slice none 0 0] 29 (0, 0))) ∧ Hid (wr.heap[gp]? = some (.cells #[.slice A2 p.Stacks.Nodes.length c2, .slice A3 p.Counts.length c3] 29 (0, 0))) ∧ Has (strT.sl 9) wr [.slice A0 ns.length c0] ns S0 ∧ Has (tNode.sl 48) wr [.slice A2 p.Stacks.Nodes.length c2] p.Stacks.Nodes S2 ∧ Has (intT.sl 3) wr [.slice A3 p.Counts.length c3] p.Counts S3 ∧ Hid (∀ b ∈ S2, gp < b) ∧ Hid (∀ b ∈ S3, gp < b) ∧ Hid (∀ b ∈ S2, b ∉ S3)) (fun a _ => (intOf a).toNat)
        case atStart => exact ⟨n2, at_ + z2, bad || !ok2, nilP, none, 0, none, 0, [], [], rfl, hn2b, hz2, Nat.zero_le _, Nat.zero_le _, fun _ => ⟨Nat.zero_le _, Nat.zero_le _⟩, HN2, HB2, hrd4, hG4, Lib.hid hr4, Lib.hid eg4, hH4, Has.nil _ _ _, Has.nil _ _ _, Lib.hid (by simp), Lib.hid (by simp), Lib.hid (by simp)⟩
        case round =>
          clear hrd4 hG4 hr4 eg4 hH4 HN2 HB2 HD2 hnl hat hz2
          obtain ⟨j, at_, bad, p, A2, c2, A3, c3, S2, S3, rfl, hjb, hat, hpn, hpc, hpl, hok, hbad, hrd, hG, hret, hbx, hH, hHn, hHc, hl2, hl3, hd23⟩ := hrel
          obtain ⟨q0, q1, q2, qf⟩ := hrd.cells
          have hkl := hrd.lt
          have hbl := (Array.getElem?_eq_some_iff.1 hbx.out).1
          obtain ⟨y0, y1, yf0, yf1, _⟩ := box2 hbx.out
          clear qf
          go_upto_region 9 with fail
          go_cut [44] from 36 to 45 (fun b wx => b = .bool (decide (0 < j) && !bad) ∧ wx = wr)
          case first =>
            by_cases hj : 0 < j
            · have hj2 : (0 : Int) < (j : Int) := by omega
              have hj3 : decide ((0 : Int) < (j : Int)) = true := decide_eq_true hj2
              go_wp2_with fail
              go_meet
              exact ⟨by rw [decide_eq_true hj]; simp, rfl⟩
            · have hj2 : ¬ (0 : Int) < (j : Int) := by omega
              have hj3 : decide ((0 : Int) < (j : Int)) = false := decide_eq_false hj2
              go_wp2_with fail
              go_meet
              exact ⟨by rw [decide_eq_false hj]; simp, rfl⟩
          case rest =>
            obtain ⟨rfl, rfl⟩ := hcut
            cases hgo : (decide (0 < j) && !bad)
            · obtain ⟨r0, r1, rf0, rf1, rl⟩ := box2 hret.out
              have hgpw : w.heap.size ≤ gp := by omega
              cases bad
              · have hj0 : j = 0 := by simp at hgo; omega
                subst hj0
                have hraw : rawP s = some p := (hok.out rfl).symm
                have hps := hpl rfl
                by_cases he : encP p = s
                · have HR := Lib.hid (decP_eq hraw he)
                  have HE := Lib.hid he
                  have heb : (s.toList != s.toList) = false := by rw [bne, str_eqb, decide_eq_true rfl]; rfl
                  clear he hraw
                  go_wp2_with (go_at_call 6; (with_reducible refine (encP_i (p := p) (Ty.up _ hHn.read (by repeat (first | with_reducible exact Gro.refl _ | with_reducible exact Gro.refl_drew _ _ _ | with_reducible exact Gro.refl_drewN _ _ _ _ | assumption | with_reducible apply Gro.more | with_reducible apply Gro.alloc | with_reducible apply Gro.drew | with_reducible apply Gro.drewN))) (Ty.up _ hHc.read (by repeat (first | with_reducible exact Gro.refl _ | with_reducible exact Gro.refl_drew _ _ _ | with_reducible exact Gro.refl_drewN _ _ _ _ | assumption | with_reducible apply Gro.more | with_reducible apply Gro.alloc | with_reducible apply Gro.drew | with_reducible apply Gro.drewN))) (by omega)).mono ?_); rw [HE.out]; rintro e w9 ⟨rfl, os9, d9, rfl⟩)
                  have h2 := set2 hret.out (.slice A2 p.Stacks.Nodes.length c2) (.slice A3 p.Counts.length c3)
                  have hz := box2 h2.1
                  have kn := (hHn.keep h2.2 (fun b hb hm => by have := hl2.out b hb; simp at hm; omega)).gro (Gro.of _ os9 d9)
                  have kc := (hHc.keep h2.2 (fun b hb hm => by have := hl3.out b hb; simp at hm; omega)).gro (Gro.of _ os9 d9)
                  refine bodyPost_ret (v := .tuple #[.agg #[.slice A2 p.Stacks.Nodes.length c2, .slice A3 p.Counts.length c3], .bool true]) (by simp [results, Tryz.results7, go_sem, hz, rl]) rfl (ret_profile_bool HR.out ?_ ((h2.2.gro hG (fun b hb => by simp at hb; omega)).trans (by (repeat (first | with_reducible exact Gro.refl _ | with_reducible exact Gro.refl_drew _ _ _ | with_reducible exact Gro.refl_drewN _ _ _ _ | assumption | with_reducible apply Gro.more | with_reducible apply Gro.alloc | with_reducible apply Gro.drew | with_reducible apply Gro.drewN)); done)))
                  refine ⟨S2 ++ S3, tProfile_mkO A2 c2 S2 A3 c3 S3 kn.1 kc.1, List.nodup_append.2 ⟨kn.2, kc.2, fun a ha b hb he => hd23.out a ha (he ▸ hb)⟩, fun b hb => ?_⟩
                  rcases List.mem_append.1 hb with h | h
                  · have := hl2.out b h; omega
                  · have := hl3.out b h; omega
                · have HR := Lib.hid (decP_ne hraw he)
                  obtain ⟨E, hE⟩ : ∃ E, encP p = E := ⟨_, rfl⟩
                  have HE := Lib.hid hE
                  rw [hE] at he
                  have heb : (E.toList == s.toList) = false := by rw [str_eqb, decide_eq_false he]
                  clear he hraw hE
                  go_wp2_with (go_at_call 6; (with_reducible refine (encP_i (p := p) (Ty.up _ hHn.read (by repeat (first | with_reducible exact Gro.refl _ | with_reducible exact Gro.refl_drew _ _ _ | with_reducible exact Gro.refl_drewN _ _ _ _ | assumption | with_reducible apply Gro.more | with_reducible apply Gro.alloc | with_reducible apply Gro.drew | with_reducible apply Gro.drewN))) (Ty.up _ hHc.read (by repeat (first | with_reducible exact Gro.refl _ | with_reducible exact Gro.refl_drew _ _ _ | with_reducible exact Gro.refl_drewN _ _ _ _ | assumption | with_reducible apply Gro.more | with_reducible apply Gro.alloc | with_reducible apply Gro.drew | with_reducible apply Gro.drewN))) (by omega)).mono ?_); rw [HE.out]; rintro e w9 ⟨rfl, os9, d9, rfl⟩)
                  have h2 := set2 hret.out (.slice none 0 0) (.slice none 0 0)
                  have hz := box2 h2.1
                  exact bodyPost_ret (v := .tuple #[.agg #[.slice none 0 0, .slice none 0 0], .bool false]) (by simp [results, Tryz.results7, go_sem, hz, rl]) rfl (ret_profile_bool HR.out (fresh_nilP _ _) ((h2.2.gro hG (fun b hb => by simp at hb; omega)).trans (by (repeat (first | with_reducible exact Gro.refl _ | with_reducible exact Gro.refl_drew _ _ _ | with_reducible exact Gro.refl_drewN _ _ _ _ | assumption | with_reducible apply Gro.more | with_reducible apply Gro.alloc | with_reducible apply Gro.drew | with_reducible apply Gro.drewN)); done)))
              · have HR := Lib.hid (decP_none (hbad.out rfl))
                go_wp2_with (fail)
                have h2 := set2 hret.out (.slice none 0 0) (.slice none 0 0)
                have hz := box2 h2.1
                exact bodyPost_ret (v := .tuple #[.agg #[.slice none 0 0, .slice none 0 0], .bool false]) (by simp [results, Tryz.results7, go_sem, hz, rl]) rfl (ret_profile_bool HR.out (fresh_nilP _ _) (h2.2.gro hG (fun b hb => by simp at hb; omega)))
            · simp only [Bool.and_eq_true, decide_eq_true_eq, Bool.not_eq_true'] at hgo
              obtain ⟨hj, rfl⟩ := hgo
              obtain ⟨i, rfl⟩ : ∃ i, j = i + 1 := ⟨j - 1, by omega⟩
              obtain ⟨n1, z1, k1, u1⟩ : ∃ n z k, decV s (at_ : Int) = (n, z, k) := ⟨_, _, _, rfl⟩
              obtain ⟨n2, z2, k2, u2⟩ : ∃ n z k, decV s ((at_ + z1 : Nat) : Int) = (n, z, k) := ⟨_, _, _, rfl⟩
              obtain ⟨n3, z3, k3, u3⟩ : ∃ n z k, decV s ((at_ + z1 + z2 : Nat) : Int) = (n, z, k) := ⟨_, _, _, rfl⟩
              obtain ⟨n4, z4, k4, u4⟩ : ∃ n z k, decV s ((at_ + z1 + z2 + z3 : Nat) : Int) = (n, z, k) := ⟨_, _, _, rfl⟩
              have zb : ∀ {a : Nat} {n z : Nat} {k : Bool}, decV s (a : Int) = (n, z, k) → a ≤ s.size → a + z ≤ s.size ∧ n ≤ 1099511627775 ∧ (k = true → 1 ≤ z) := by
                intro a n z k h ha
                cases k with
                | true => have := decV_bd h; exact ⟨by omega, this.2.2.2.2, fun _ => this.2.1⟩
                | false => rw [(decV_zero h).1, (decV_zero h).2]; exact ⟨by omega, by omega, fun h => by cases h⟩
              obtain ⟨b1, c1, e1⟩ := zb u1 hat
              obtain ⟨b2, c2', e2⟩ := zb u2 b1
              obtain ⟨b3, c3', e3⟩ := zb u3 b2
              obtain ⟨b4, c4, e4⟩ := zb u4 b3
              have U1 := Lib.hid u1
              have U2 := Lib.hid u2
              have U3 := Lib.hid u3
              have U4 := Lib.hid u4
              have hok' := hok.out rfl
              have HOK := Lib.hid hok'
              have hl' := hpl rfl
              have hw1 : IntKind.i64.wrap ((n1 : Int) - 1) = (n1 : Int) - 1 := IntWalk.i64_in _ ⟨by omega, by omega⟩
              clear u1 u2 u3 u4 hok hok' hbad zb hpl
              have D0 : DSt w wc g gp s at_ false ns A0 c0 S0 p A2 c2 S2 A3 c3 S3 := ⟨hrd, hG, hret.out, hbx.out, hH, hHn, hHc, fun b hb => ⟨hl0.out b hb, hS0l b hb⟩, hl2.out, hl3.out, hd23.out, hggp, by omega⟩
              have hwcs : ∀ b, b ∈ S0 ∨ b ∈ S2 ∨ b ∈ S3 → b < wc.heap.size := fun b hb => by
                rcases hb with h | h | h
                · exact hH.lt b h
                · exact hHn.lt b h
                · exact hHc.lt b h
              clear hrd hG hret hbx hH hHn hHc q0 q1 q2 y0 y1 yf0 yf1
              go_wp2_with (fail)
              refine (number_rd D0.rd hs0 hat).mono ?_
              rw [U1.out]
              rintro e V1 ⟨rfl, hrd1, hO1⟩
              have hz1 := hO1.size
              have D1 := D0.num hO1 (bad' := !k1) (by rwa [Bool.false_or] at hrd1)
              have ex := heap_alloc_new V1 (.cells #[.int .i64 ((n1 : Int) - 1), .string ⟨#[]⟩, .int .i64 0] 48)
              have D1' := D1.more (show Gro V1 (V1.alloc (.cells #[.int .i64 ((n1 : Int) - 1), .string ⟨#[]⟩, .int .i64 0] 48)) from (by repeat (first | with_reducible exact Gro.refl _ | with_reducible exact Gro.refl_drew _ _ _ | with_reducible exact Gro.refl_drewN _ _ _ _ | assumption | with_reducible apply Gro.more | with_reducible apply Gro.alloc | with_reducible apply Gro.drew | with_reducible apply Gro.drewN)))
              go_wp2_with (fail)
              obtain ⟨gx, hgx⟩ : ∃ gx, V1.heap.size = gx := ⟨_, rfl⟩
              have hgw : wc.heap.size ≤ gx := by omega
              have hgxl : gx < (V1.alloc (.cells #[.int .i64 ((n1 : Int) - 1), .string ⟨#[]⟩, .int .i64 0] 48)).heap.size := by rw [World.size_alloc]; omega
              rw [hgx] at ex ⊢
              generalize (V1.alloc (.cells #[.int .i64 ((n1 : Int) - 1), .string ⟨#[]⟩, .int .i64 0] 48)) = X1 at ex D1' hgxl ⊢
              clear hrd1 hO1 D0 D1 hz1 hgx
              refine (number_rd D1'.rd hs0 b1).mono ?_
              rw [U2.out]
              rintro e V2 ⟨rfl, hrd2, hO2⟩
              have hz2 := hO2.size
              have D2 := D1'.num hO2 hrd2
              have ex2 := (hO2.block gx hgxl (by simp; omega)).trans ex
              have hgx2 : gx < V2.heap.size := by omega
              clear hrd2 hO2 D1' ex hgxl
              by_cases hfar : ns.length ≤ n2
              · have HR := Lib.hid (decP_none (s := s) (by
                  rw [← HOK.out]
                  cases k1 with
                  | false => exact rdNodes_bad (rdFour_1 U1.out)
                  | true => cases k2 with
                    | false => exact rdNodes_bad (rdFour_2 U1.out U2.out)
                    | true => exact rdNodes_mid U1.out U2.out hfar))
                have hfi : (ns.length : Int) ≤ (n2 : Int) := by omega
                obtain ⟨r0, r1, rf0, rf1, rl⟩ := box2 D2.ret
                go_wp2_with (fail)
                have h2 := set2 D2.ret (.slice none 0 0) (.slice none 0 0)
                have hz := box2 h2.1
                have hwg := D2.wg
                exact bodyPost_ret (v := .tuple #[.agg #[.slice none 0 0, .slice none 0 0], .bool false]) (by simp [results, Tryz.results7, go_sem, hz, rl]) rfl (ret_profile_bool HR.out (fresh_nilP _ _) (h2.2.gro D2.gro (fun b hb => by simp at hb; omega)))
              · have hfi : ¬ (ns.length : Int) ≤ (n2 : Int) := by omega
                have hni : (n2 : Int) < (ns.length : Int) := by omega
                obtain ⟨gn, offn, t, hAn, htk, hcn, htz⟩ := strs_at D2.names.read (k := n2) (by omega)
                have hgnS : gn ∈ S0 := by
                  obtain ⟨Ax, cx, ecs, S', q1, q2, q3, q4⟩ := D2.names.1
                  injection q1 with q1 _
                  injection q1 with qA _ _
                  rw [q4, ← qA, hAn]
                  simp [blockOf]
                have hgn0 := D2.l0 gn hgnS
                have hgnl : gn < V2.heap.size := World.block_lt_of_cell? _ _ hcn
                subst hAn
                have HTK := Lib.hid htk
                clear htk
                go_wp2_with (fail)
                go_cut [] from 58 to 66 (fun wx => DSt w wx g gp s (at_ + z1 + z2 + z3) (((!k1) || !k2) || !k3) ns (some ⟨gn, offn, none⟩) c0 S0 p A2 c2 S2 A3 c3 S3 ∧ Hid (wx.heap[gx]? = some (.cells #[.int .i64 ((n1 : Int) - 1), .string t, .int .i64 (n3 : Int)] 48 (0, 0))))
                case first =>
                  go_region_law (first
                    | (go_simp; go_at_call 18; (with_reducible refine (number_rd (D2.more (by (repeat (first | with_reducible exact Gro.refl _ | with_reducible exact Gro.refl_drew _ _ _ | with_reducible exact Gro.refl_drewN _ _ _ _ | assumption | with_reducible apply Gro.more | with_reducible apply Gro.alloc | with_reducible apply Gro.drew | with_reducible apply Gro.drewN)); done)).rd hs0 b2).mono ?_); rw [U3.out]; rintro e V3 ⟨rfl, hrd3, hO3⟩; have D3 := (D2.more (by (repeat (first | with_reducible exact Gro.refl _ | with_reducible exact Gro.refl_drew _ _ _ | with_reducible exact Gro.refl_drewN _ _ _ _ | assumption | with_reducible apply Gro.more | with_reducible apply Gro.alloc | with_reducible apply Gro.drew | with_reducible apply Gro.drewN)); done)).num hO3 hrd3; have ex3 := (hO3.block gx (by simp; omega) (by simp; omega)).trans (grow_blk ex2 (by (repeat (first | with_reducible exact Gro.refl _ | with_reducible exact Gro.refl_drew _ _ _ | with_reducible exact Gro.refl_drewN _ _ _ _ | assumption | with_reducible apply Gro.more | with_reducible apply Gro.alloc | with_reducible apply Gro.drew | with_reducible apply Gro.drewN)); done)); have hcn3 : V3.cell? ⟨gn, offn + n2, none⟩ = some (.string t) := (hO3.cell (by simp; omega) (by simp; omega) _).trans (cell_up (show Gro V2 _ from (by (repeat (first | with_reducible exact Gro.refl _ | with_reducible exact Gro.refl_drew _ _ _ | with_reducible exact Gro.refl_drewN _ _ _ _ | assumption | with_reducible apply Gro.more | with_reducible apply Gro.alloc | with_reducible apply Gro.drew | with_reducible apply Gro.drewN)); done)) hcn); have xf := fun j => (show V3.frozen? ⟨gx, j, none⟩ = false from by simp [World.frozen?, ex3]); have xf1 := xf 1; have xf2 := xf 2; have xc1 : V3.cell? ⟨gx, 1, none⟩ = some (.string ⟨#[]⟩) := (by rw [cell_of_row V3 gx _ _ _ (0, 0) ex3]; rfl); have xc2 : V3.cell? ⟨gx, 2, none⟩ = some (.int .i64 0) := (by rw [cell_of_row V3 gx _ _ _ (0, 0) ex3]; rfl); have hgx3 := (Array.getElem?_eq_some_iff.1 ex3).1; clear xf))
                  all_goals go_wp2_with fail
                  all_goals go_meet
                  all_goals
                    have ho : OnlyS [gx] V3 ((V3.setCell ⟨gx, 1, none⟩ (.string t)).setCell ⟨gx, 2, none⟩ (.int .i64 (n3 : Int))) := ((OnlyS.refl _ _).setCell (p := ⟨gx, 1, none⟩) (by simp) _).setCell (p := ⟨gx, 2, none⟩) (by simp) _
                    have hwg := D3.wg
                    exact ⟨D3.to ho (D3.rd.keep ho (by simp; omega)) (fun k hk => by
                      rw [List.mem_singleton] at hk
                      subst hk
                      exact ⟨by omega, by omega, fun hm => by have := hwcs _ (.inl hm); omega, fun hm => by have := hwcs _ (.inr (.inl hm)); omega, fun hm => by have := hwcs _ (.inr (.inr hm)); omega, by omega⟩), Lib.hid (heap_setCell_at (heap_setCell_at ex3 1 _) 2 _)⟩
                case rest =>
                  obtain ⟨D3, ex3⟩ := hcut
                  clear D2 ex2 hcn hgx2
                  obtain ⟨y0, y1, yf0, yf1, yl⟩ := box2 D3.box
                  have ex4 := ex3.out
                  have xc0 : wc.cell? ⟨gx, 0, none⟩ = some (.int .i64 ((n1 : Int) - 1)) := by rw [cell_of_row wc gx _ _ _ (0, 0) ex4]; rfl
                  have xc1 : wc.cell? ⟨gx, 1, none⟩ = some (.string t) := by rw [cell_of_row wc gx _ _ _ (0, 0) ex4]; rfl
                  have xc2 : wc.cell? ⟨gx, 2, none⟩ = some (.int .i64 (n3 : Int)) := by rw [cell_of_row wc gx _ _ _ (0, 0) ex4]; rfl
                  have hgx4 := (Array.getElem?_eq_some_iff.1 ex4).1
                  have hxR : tNode.R w 0 [.int .i64 ((n1 : Int) - 1), .string t, .int .i64 (n3 : Int)] ⟨(n1 : Int) - 1, ⟨t, (n3 : Int)⟩⟩ := tNode_mkR (x := ⟨(n1 : Int) - 1, ⟨t, (n3 : Int)⟩⟩) ⟨by simp only; omega, by simp only; omega⟩ htz ⟨by simp only; omega, by simp only; omega⟩
                  have hgp2 : gp ∉ S2 := fun hm => by have := D3.l2 gp hm; omega
                  clear ex4
                  go_wp2_with (((refine wpList_append_hasf (L := p.Stacks.Nodes.length + 1) (y := (⟨(n1 : Int) - 1, ⟨t, (n3 : Int)⟩⟩ : DNode)) rfl (.tmp 68) (.tmp 70) elNode flatNode (S := S2) (D3.nodes.gro (by (repeat (first | with_reducible exact Gro.refl _ | with_reducible exact Gro.refl_drew _ _ _ | with_reducible exact Gro.refl_drewN _ _ _ _ | assumption | with_reducible apply Gro.more | with_reducible apply Gro.alloc | with_reducible apply Gro.drew | with_reducible apply Gro.drewN)); done)) (ec := [.int .i64 ((n1 : Int) - 1), .string t, .int .i64 (n3 : Int)]) (W1 := w) (B := 0) hxR rfl rfl rfl (by intro j u hu; simpa [go_sem] using hu) rfl (by omega) (by omega) ?_)); intro A7 c7 W7 S7 hon hH7 hS7; have eb7 := (hon.block gp (by simp; omega) hgp2).trans (grow_blk D3.box (by (repeat (first | with_reducible exact Gro.refl _ | with_reducible exact Gro.refl_drew _ _ _ | with_reducible exact Gro.refl_drewN _ _ _ _ | assumption | with_reducible apply Gro.more | with_reducible apply Gro.alloc | with_reducible apply Gro.drew | with_reducible apply Gro.drewN)); done)); obtain ⟨p0, p1, pf0, pf1, pl⟩ := box2 eb7; have D4 := D3.push1 (by (repeat (first | with_reducible exact Gro.refl _ | with_reducible exact Gro.refl_drew _ _ _ | with_reducible exact Gro.refl_drewN _ _ _ _ | assumption | with_reducible apply Gro.more | with_reducible apply Gro.alloc | with_reducible apply Gro.drew | with_reducible apply Gro.drewN)); done) hon hH7 hS7)
                  generalize W7.setCell ⟨gp, 0, none⟩ (.slice A7 (p.Stacks.Nodes.length + 1) c7) = V4 at D4 ⊢
                  clear p0 p1 pf0 pf1 pl eb7 hon hH7 hS7 y0 y1 yf0 yf1 yl xc0 xc1 xc2 hxR D3 ex3
                  obtain ⟨y0, y1, yf0, yf1, yl⟩ := box2 D4.box
                  have hn464 : I64 (n4 : Int) := ⟨by omega, by omega⟩
                  have hgp3 : gp ∉ S3 := fun hm => by have := D4.l3 gp hm; omega
                  go_region_law (first
                    | (go_simp; go_at_call 18; (with_reducible refine (number_rd (D4.more (by (repeat (first | with_reducible exact Gro.refl _ | with_reducible exact Gro.refl_drew _ _ _ | with_reducible exact Gro.refl_drewN _ _ _ _ | assumption | with_reducible apply Gro.more | with_reducible apply Gro.alloc | with_reducible apply Gro.drew | with_reducible apply Gro.drewN)); done)).rd hs0 b3).mono ?_); rw [U4.out]; rintro e V5 ⟨rfl, hrd5, hO5⟩; have D5 := (D4.more (by (repeat (first | with_reducible exact Gro.refl _ | with_reducible exact Gro.refl_drew _ _ _ | with_reducible exact Gro.refl_drewN _ _ _ _ | assumption | with_reducible apply Gro.more | with_reducible apply Gro.alloc | with_reducible apply Gro.drew | with_reducible apply Gro.drewN)); done)).num hO5 hrd5; obtain ⟨v0, v1, vf0, vf1, vl⟩ := box2 D5.box)
                    | (refine step_append_hasf (L := p.Counts.length + 1) (y := (n4 : Int)) rfl (.tmp 75) (.tmp 78) elInt flat_int (S := S3) (D5.counts.gro (by (repeat (first | with_reducible exact Gro.refl _ | with_reducible exact Gro.refl_drew _ _ _ | with_reducible exact Gro.refl_drewN _ _ _ _ | assumption | with_reducible apply Gro.more | with_reducible apply Gro.alloc | with_reducible apply Gro.drew | with_reducible apply Gro.drewN)); done)) (ec := [.int .i64 (n4 : Int)]) (W1 := w) (B := 0) ⟨rfl, hn464.1, hn464.2⟩ rfl rfl rfl (by intro j u hu; simpa [go_sem] using hu) rfl (by omega) (by omega) ?_; intro A8 c8 W8 S8 hon hH8 hS8; have eb8 := (hon.block gp (by simp; omega) hgp3).trans (grow_blk D5.box (by (repeat (first | with_reducible exact Gro.refl _ | with_reducible exact Gro.refl_drew _ _ _ | with_reducible exact Gro.refl_drewN _ _ _ _ | assumption | with_reducible apply Gro.more | with_reducible apply Gro.alloc | with_reducible apply Gro.drew | with_reducible apply Gro.drewN)); done)); obtain ⟨p0, p1, pf0, pf1, pl⟩ := box2 eb8; have D6 := D5.push2 (by (repeat (first | with_reducible exact Gro.refl _ | with_reducible exact Gro.refl_drew _ _ _ | with_reducible exact Gro.refl_drewN _ _ _ _ | assumption | with_reducible apply Gro.more | with_reducible apply Gro.alloc | with_reducible apply Gro.drew | with_reducible apply Gro.drewN)); done) hon hH8 hS8))
                  all_goals
                    have hz4 : ((((!k1) || !k2) || !k3) || !k4) = true → rawP s = none := fun h => by
                      rw [← HOK.out]
                      cases k1 with
                      | false => exact rdNodes_bad (rdFour_1 U1.out)
                      | true => cases k2 with
                        | false => exact rdNodes_bad (rdFour_2 U1.out U2.out)
                        | true => cases k3 with
                          | false => exact rdNodes_bad (rdFour_3 U1.out U2.out U3.out)
                          | true => cases k4 with
                            | false => exact rdNodes_bad (rdFour_4 U1.out U2.out U3.out U4.out)
                            | true => simp at h
                    have hk4 : ((((!k1) || !k2) || !k3) || !k4) = false → k1 = true ∧ k2 = true ∧ k3 = true ∧ k4 = true := fun h => by simpa [and_assoc] using h
                    have HZ4 := Lib.hid hz4
                    have HK4 := Lib.hid hk4
                    have HE := Lib.hid (show (k1 = true → 1 ≤ z1) ∧ (k2 = true → 1 ≤ z2) from ⟨e1, e2⟩)
                    clear hz4 hk4 e1 e2 e3 e4 D4 y0 y1 yf0 yf1 yl
                    go_wp2_with (fail)
                    go_roundw
                    case measure => (simp [intOf]; try omega)
                    case rel =>
                      refine ⟨i, at_ + z1 + z2 + z3 + z4, (((!k1) || !k2) || !k3) || !k4, pushP p ⟨(n1 : Int) - 1, ⟨t, (n3 : Int)⟩⟩ (n4 : Int), A7, c7, A8, c8, S7, S8, by go_num, by omega, b4, ?_, ?_, fun h => ?_, Lib.hid (fun h => ?_), Lib.hid HZ4.out, D6.rd, D6.gro, Lib.hid D6.ret, Lib.hid D6.box, D6.names, D6.nodes, D6.counts, Lib.hid D6.l2, Lib.hid D6.l3, Lib.hid D6.d23⟩
                      · show (p.Stacks.Nodes ++ [_]).length ≤ _
                        rw [List.length_append, List.length_singleton]
                        omega
                      · show (p.Counts ++ [_]).length ≤ _
                        rw [List.length_append, List.length_singleton]
                        omega
                      · obtain ⟨h1, h2, _, _⟩ := HK4.out h
                        have := HE.out.1 h1
                        constructor
                        · show (p.Stacks.Nodes ++ [_]).length ≤ _
                          rw [List.length_append, List.length_singleton]
                          omega
                        · show (p.Counts ++ [_]).length ≤ _
                          rw [List.length_append, List.length_singleton]
                          omega
                      · obtain ⟨rfl, rfl, rfl, rfl⟩ := HK4.out h
                        rw [← HOK.out, rdNodes_ok (rdFour_ok U1.out U2.out U3.out U4.out) HTK.out]
      · simp only [Bool.and_eq_true, decide_eq_true_eq, Bool.not_eq_true'] at hgo
        obtain ⟨hj, rfl⟩ := hgo
        obtain ⟨i, rfl⟩ : ∃ i, j = i + 1 := ⟨j - 1, by omega⟩
        obtain ⟨t, z, ok, hu⟩ : ∃ t z ok, unpT s (at_ : Int) = (t, z, ok) := ⟨_, _, _, rfl⟩
        have htz := unpT_sz s (at_ : Int) hs0
        rw [hu] at htz
        simp only at htz
        have HU := Lib.hid hu
        have hl := hnl2 rfl
        have hok' := hok.out rfl
        have hza : at_ + z ≤ s.size ∧ (ok = true → 1 ≤ z) := by
          cases ok with
          | true => have := unpT_bd hu; exact ⟨this.2.1, fun _ => this.1⟩
          | false => rw [unpT_zero hu]; exact ⟨hat, fun h => by cases h⟩
        have HN := Lib.hid (show ok = true → rdNames s i (at_ + z) (ns ++ [t]) = rdNames s n0 z0 [] from fun h => by subst h; rw [← hok'.2, rdNames_ok hu])
        have HB := Lib.hid (show ok = false → rawP s = none from fun h => by
          subst h
          have h1 := HD0.out
          rw [hok'.1] at h1
          exact rawP_1 h1 (by rw [← hok'.2, rdNames_bad hu]))
        have hok0 := hok'.1
        have HOK0 := Lib.hid hok0
        have hlt0 : ∀ b ∈ S0, b ≠ g + 1 := fun b hb => by have := hl0.out b hb; omega
        clear hu hok hok' hok0 hnl2
        go_wp2_with (first
          | (go_at_call 19; (with_reducible refine (text_rd (hrd.gro (by (repeat (first | with_reducible exact Gro.refl _ | with_reducible exact Gro.refl_drew _ _ _ | with_reducible exact Gro.refl_drewN _ _ _ _ | assumption | with_reducible apply Gro.more | with_reducible apply Gro.alloc | with_reducible apply Gro.drew | with_reducible apply Gro.drewN)); done)) hs0 hat).mono ?_); rw [HU.out]; rintro e W3 ⟨rfl, hrd3, hO3⟩)
          | (refine wpList_append_hasf (L := ns.length + 1) (y := t) rfl (.tmp 28) (.tmp 31) el_str flat_str (S := S0) ((hH.keep hO3 (fun b hb hm => hlt0 b hb (by simpa using hm))).gro (by (repeat (first | with_reducible exact Gro.refl _ | with_reducible exact Gro.refl_drew _ _ _ | with_reducible exact Gro.refl_drewN _ _ _ _ | assumption | with_reducible apply Gro.more | with_reducible apply Gro.alloc | with_reducible apply Gro.drew | with_reducible apply Gro.drewN)); done)) (ec := [.string t]) (W1 := w) (B := 0) ⟨rfl, by omega⟩ rfl rfl rfl (by intro j u hu; simpa [go_sem] using hu) rfl (by omega) (by omega) ?_; intro A7 c7 W7 S7 hon hH7 hS7))
        go_roundw
        case measure => (simp [intOf]; try omega)
        case rel =>
          have hzz := hon.size
          have hz3 := hO3.size
          simp at hzz
          have hk3 := hrd3.lt
          have hrd7 : Rd W7 (g + 1) s ((at_ + z : Nat) : Int) (!ok) := by simpa using (hrd3.gro (show Gro W3 (W3.alloc (.cells #[.string t] 9)) from (by repeat (first | with_reducible exact Gro.refl _ | with_reducible exact Gro.refl_drew _ _ _ | with_reducible exact Gro.refl_drewN _ _ _ _ | assumption | with_reducible apply Gro.more | with_reducible apply Gro.alloc | with_reducible apply Gro.drew | with_reducible apply Gro.drewN)))).keep hon (fun hm => hlt0 _ hm rfl)
          have hG3 : Gro w W3 := hO3.gro hG (fun b hb => by simp at hb; omega)
          have hG7 : Gro w W7 := hon.gro (hG3.trans (by (repeat (first | with_reducible exact Gro.refl _ | with_reducible exact Gro.refl_drew _ _ _ | with_reducible exact Gro.refl_drewN _ _ _ _ | assumption | with_reducible apply Gro.more | with_reducible apply Gro.alloc | with_reducible apply Gro.drew | with_reducible apply Gro.drewN)); done)) (fun b hb => by have := hl0.out b hb; omega)
          have hgl := (Array.getElem?_eq_some_iff.1 hret.out).1
          have hr3 := (hO3.block g hgl (by simp)).trans hret.out
          have hr7 := (hon.block g (by simp; omega) (fun hm => by have := hl0.out g hm; omega)).trans (grow_blk hr3 (by (repeat (first | with_reducible exact Gro.refl _ | with_reducible exact Gro.refl_drew _ _ _ | with_reducible exact Gro.refl_drewN _ _ _ _ | assumption | with_reducible apply Gro.more | with_reducible apply Gro.alloc | with_reducible apply Gro.drew | with_reducible apply Gro.drewN)); done))
          refine ⟨i, at_ + z, !ok, ns ++ [t], A7, c7, S7, by rw [List.length_append]; rfl, by go_num, by omega, hza.1, by rw [List.length_append, List.length_singleton]; omega, fun h => ?_, Lib.hid (fun h => ⟨HOK0.out, HN.out (by simpa using h)⟩), Lib.hid (fun h => HB.out (by simpa using h)), hrd7, hG7, Lib.hid hr7, by rw [List.length_append]; exact hH7, Lib.hid (fun b hb => ?_)⟩
          · have := hza.2 (by simpa using h)
            rw [List.length_append, List.length_singleton]
            omega
          · rcases hS7 b hb with h | h
            · exact hl0.out b h
            · simp at h; omega
end Go.Proofs.YtcomafmiclkmhaaGreatDoor
namespace Go.Proofs.YtcomafmiclkmhaaGreatDoor
open Go.RowKit
@[go_sem] theorem binOp_string_leq (t : TypeId) (a b : ByteArray) : binOp .leq t (.string a) (.string b) = pure (.bool (Op.bytesLess a.toList b.toList || (a.toList == b.toList))) := by simp [binOp, Op.stringOp]
end Go.Proofs.YtcomafmiclkmhaaGreatDoor
namespace Go.Proofs.YtcomafmiclkmhaaGreatDoor.fnStored
open Go.ChangeShapes Go.WideShapes Go.ChangeAt Go.RowKit
open Go.ChangeMaps (open_string shut_string)
theorem own : ownKnob Tryz.prog.godebug = none := by kernel_rfl
theorem laidOut : laidOutB Tryz.prog = true := by kernel_rfl
set_option maxRecDepth 100000 in
set_option maxHeartbeats 8000000 in
theorem walk (w : World) (v : Value) (xs : List UInt8) (hx : (byteT.sl 5).R w w.heap.size [v] xs) {m : Int} (hm : w.cell? ⟨0, 0, none⟩ = some (.int .i64 m)) :
    Calls Tryz.prog 3 #[v] w fun e w' => e = .returned (.bool true) ∧ Gro w w' := by
  have HM0 := Lib.hid hm
  clear hm
  obtain ⟨A, c, rfl, hxl, hcm⟩ := sl_at hx
  by_cases hb : xs.length ≤ 1048576
  case neg =>
    have hb2 := Lib.hid (show decide (1048576 < (xs.length : Int)) = true from decide_eq_true (by omega))
    go_enter Tryz.func3, Tryz.ntmps3
    go_wp2_with (go_at_call 4; refine (big_l _ _ _ _).mono ?_; rw [hb2.out]; rintro e w1 ⟨rfl, os1, d1, rfl⟩)
    go_ret
    exact ⟨rfl, (by repeat (first | with_reducible exact Gro.refl _ | with_reducible exact Gro.refl_drew _ _ _ | with_reducible exact Gro.refl_drewN _ _ _ _ | assumption | with_reducible apply Gro.more | with_reducible apply Gro.alloc | with_reducible apply Gro.drew | with_reducible apply Gro.drewN))⟩
  have hb2 := Lib.hid (show decide (1048576 < (xs.length : Int)) = false from decide_eq_false (by omega))
  go_enter Tryz.func3, Tryz.ntmps3
  go_wp2_with (go_at_call 4; refine (big_l _ _ _ _).mono ?_; rw [hb2.out]; rintro e w1 ⟨rfl, os1, d1, rfl⟩)
  refine (profs_s (Ty.up _ hx (by repeat (first | with_reducible exact Gro.refl _ | with_reducible exact Gro.refl_drew _ _ _ | with_reducible exact Gro.refl_drewN _ _ _ _ | assumption | with_reducible apply Gro.more | with_reducible apply Gro.alloc | with_reducible apply Gro.drew | with_reducible apply Gro.drewN))) (by omega)).mono ?_
  rintro e W2 ⟨p, q, Ap0, cp0, Ap1, cp1, Aq0, cq0, Aq1, cq1, rfl, hp, hq, hG2, hRp, hRq⟩
  have hGw : Gro w W2 := (Gro.more (Gro.refl w) os1 d1).trans hG2
  clear hG2
  have hpn := hp.2.2
  have hqn := hq.2.2
  obtain ⟨a, b, n, s, S, T, s2, ns, ea, eb, es, eS, eT, e2, d1, d2, hST, f1, f2, en, hasc, hns, hs1, hs2, hpn2, hqn2, hpc, ha1, hb1, ha2, hb2, hfp, hfq⟩ := stored_all hp hq
  obtain ⟨E, hE⟩ : ∃ E, sameP p q = E := ⟨_, rfl⟩
  rw [hE] at hST
  have Hea := Lib.hid ea
  have Heb := Lib.hid eb
  have Hes := Lib.hid es
  have HeS := Lib.hid eS
  have HeT := Lib.hid eT
  have He2 := Lib.hid e2
  have Hd1 := Lib.hid d1
  have Hd2 := Lib.hid d2
  have Hf1 := Lib.hid f1
  have Hf2 := Lib.hid f2
  have Hen := Lib.hid en
  have Hhasc := Lib.hid hasc
  have HhE := Lib.hid hE
  have hab : (S.toList == T.toList) = E := by rw [str_eqb]; exact hST
  have hnd := (show n.Stacks.Nodes.length ≤ 1101 ∧ n.Counts.length ≤ 1101 from by have := decP_len s2; rw [d2] at this; simp only at this; omega)
  clear ea eb es eS eT e2 d1 d2 f1 f2 en hasc hE hST hp hq
  go_wp2_with (fail)
  obtain ⟨np, hnp⟩ : ∃ np, W2.heap.size = np := ⟨_, rfl⟩
  have Bp := (PB.new hRp hnp).up (show Gro _ ((W2.alloc (.cells #[.slice Ap0 p.Stacks.Nodes.length cp0, .slice Ap1 p.Counts.length cp1] 29)).alloc (.cells #[.slice Aq0 q.Stacks.Nodes.length cq0, .slice Aq1 q.Counts.length cq1] 29)) from (by repeat (first | with_reducible exact Gro.refl _ | with_reducible exact Gro.refl_drew _ _ _ | with_reducible exact Gro.refl_drewN _ _ _ _ | assumption | with_reducible apply Gro.more | with_reducible apply Gro.alloc | with_reducible apply Gro.drew | with_reducible apply Gro.drewN)))
  have Bq : PB ((W2.alloc (.cells #[.slice Ap0 p.Stacks.Nodes.length cp0, .slice Ap1 p.Counts.length cp1] 29)).alloc (.cells #[.slice Aq0 q.Stacks.Nodes.length cq0, .slice Aq1 q.Counts.length cq1] 29)) (np + 1) q Aq0 cq0 Aq1 cq1 := PB.new (Ty.up _ hRq (by repeat (first | with_reducible exact Gro.refl _ | with_reducible exact Gro.refl_drew _ _ _ | with_reducible exact Gro.refl_drewN _ _ _ _ | assumption | with_reducible apply Gro.more | with_reducible apply Gro.alloc | with_reducible apply Gro.drew | with_reducible apply Gro.drewN))) (by rw [World.size_alloc, hnp])
  have G0 : Gro w ((W2.alloc (.cells #[.slice Ap0 p.Stacks.Nodes.length cp0, .slice Ap1 p.Counts.length cp1] 29)).alloc (.cells #[.slice Aq0 q.Stacks.Nodes.length cq0, .slice Aq1 q.Counts.length cq1] 29)) := (by repeat (first | with_reducible exact Gro.refl _ | with_reducible exact Gro.refl_drew _ _ _ | with_reducible exact Gro.refl_drewN _ _ _ _ | assumption | with_reducible apply Gro.more | with_reducible apply Gro.alloc | with_reducible apply Gro.drew | with_reducible apply Gro.drewN))
  rw [hnp]
  generalize ((W2.alloc (.cells #[.slice Ap0 p.Stacks.Nodes.length cp0, .slice Ap1 p.Counts.length cp1] 29)).alloc (.cells #[.slice Aq0 q.Stacks.Nodes.length cq0, .slice Aq1 q.Counts.length cq1] 29)) = Z0 at Bp Bq G0 ⊢
  clear hRp hRq hGw hnp
  obtain ⟨yp0, yp1, ypl⟩ := Bp.cells
  obtain ⟨yq0, yq1, yql⟩ := Bq.cells
  go_wp2_with (fail)
  refine (encP_i (p := p) Bp.nodes Bp.counts (by omega)).mono ?_
  rw [Hes.out]
  rintro e w1 ⟨rfl, os1, d1, rfl⟩
  have hG' : Gro Z0 (gro Z0 os1 d1) := (by repeat (first | with_reducible exact Gro.refl _ | with_reducible exact Gro.refl_drew _ _ _ | with_reducible exact Gro.refl_drewN _ _ _ _ | assumption | with_reducible apply Gro.more | with_reducible apply Gro.alloc | with_reducible apply Gro.drew | with_reducible apply Gro.drewN))
  have Bp' := Bp.up hG'
  have Bq' := Bq.up hG'
  have G' := G0.trans hG'
  clear yp0 yp1 ypl Bp yq0 yq1 yql Bq  G0
  generalize (gro Z0 os1 d1) = Z1 at Bp' Bq'   G' ⊢
  clear hG'
  have Bp := Bp'
  obtain ⟨yp0, yp1, ypl⟩ := Bp.cells
  have Bq := Bq'
  obtain ⟨yq0, yq1, yql⟩ := Bq.cells
  have G1 := G'
  clear G' Bp' Bq' 
  go_wp2_with (fail)
  refine (decP_i s _ (by omega)).mono ?_
  rw [Hd1.out]
  rintro e w1 ⟨Ak0, ck0, Ak1, ck1, rfl, hF2, os2, d2, rfl⟩
  go_wp2_with (fail)
  obtain ⟨nk, hnk⟩ : ∃ nk, Z1.heap.size + os2.size = nk := ⟨_, rfl⟩
  have Bk'' := PB.new (X := (gro Z1 os2 d2)) hF2.read (n := nk) (by rw [gro_size]; exact hnk)
  rw [hnk]
  clear hF2 hnk
  have hG' : Gro Z1 ((gro Z1 os2 d2).alloc (.cells #[.slice Ak0 p.Stacks.Nodes.length ck0, .slice Ak1 p.Counts.length ck1] 29)) := (by repeat (first | with_reducible exact Gro.refl _ | with_reducible exact Gro.refl_drew _ _ _ | with_reducible exact Gro.refl_drewN _ _ _ _ | assumption | with_reducible apply Gro.more | with_reducible apply Gro.alloc | with_reducible apply Gro.drew | with_reducible apply Gro.drewN))
  have Bp' := Bp.up hG'
  have Bq' := Bq.up hG'
  have G' := G1.trans hG'
  clear yp0 yp1 ypl Bp yq0 yq1 yql Bq  G1
  generalize ((gro Z1 os2 d2).alloc (.cells #[.slice Ak0 p.Stacks.Nodes.length ck0, .slice Ak1 p.Counts.length ck1] 29)) = Z2 at Bp' Bq'  Bk'' G' ⊢
  clear hG'
  have Bp := Bp'
  obtain ⟨yp0, yp1, ypl⟩ := Bp.cells
  have Bq := Bq'
  obtain ⟨yq0, yq1, yql⟩ := Bq.cells
  have G2 := G'
  clear G' Bp' Bq' 
  have Bk := Bk''
  clear Bk''
  obtain ⟨yk0, yk1, ykl⟩ := Bk.cells
  go_wp2_with (fail)
  rw [show s ++ (⟨#[0]⟩ : ByteArray) = s2 from He2.out]
  refine (decP_i s2 _ (by omega)).mono ?_
  rw [Hd2.out]
  rintro e w1 ⟨An0, cn0, An1, cn1, rfl, hF3, os3, d3, rfl⟩
  go_wp2_with (fail)
  obtain ⟨nn, hnn⟩ : ∃ nn, Z2.heap.size + os3.size = nn := ⟨_, rfl⟩
  have Bn'' := PB.new (X := (gro Z2 os3 d3)) hF3.read (n := nn) (by rw [gro_size]; exact hnn)
  rw [hnn]
  clear hF3 hnn
  have hG' : Gro Z2 ((gro Z2 os3 d3).alloc (.cells #[.slice An0 n.Stacks.Nodes.length cn0, .slice An1 n.Counts.length cn1] 29)) := (by repeat (first | with_reducible exact Gro.refl _ | with_reducible exact Gro.refl_drew _ _ _ | with_reducible exact Gro.refl_drewN _ _ _ _ | assumption | with_reducible apply Gro.more | with_reducible apply Gro.alloc | with_reducible apply Gro.drew | with_reducible apply Gro.drewN))
  have Bp' := Bp.up hG'
  have Bq' := Bq.up hG'
  have Bk' := Bk.up hG'
  have G' := G2.trans hG'
  clear yp0 yp1 ypl Bp yq0 yq1 yql Bq yk0 yk1 ykl Bk  G2
  generalize ((gro Z2 os3 d3).alloc (.cells #[.slice An0 n.Stacks.Nodes.length cn0, .slice An1 n.Counts.length cn1] 29)) = Z3 at Bp' Bq' Bk'  Bn'' G' ⊢
  clear hG'
  have Bp := Bp'
  obtain ⟨yp0, yp1, ypl⟩ := Bp.cells
  have Bq := Bq'
  obtain ⟨yq0, yq1, yql⟩ := Bq.cells
  have Bk := Bk'
  obtain ⟨yk0, yk1, ykl⟩ := Bk.cells
  have G3 := G'
  clear G' Bp' Bq' Bk' 
  have Bn := Bn''
  clear Bn''
  obtain ⟨yn0, yn1, ynl⟩ := Bn.cells
  go_wp2_with (fail)
  refine (tidy_i (p := p) Bp.nodes Bp.counts (by omega) (by omega) (Gro.cell G3 HM0.out)).mono ?_
  rw [Hea.out]
  rintro e w1 ⟨Aa0, ca0, Aa1, ca1, rfl, hF4, os4, d4, rfl⟩
  go_wp2_with (fail)
  refine (encP_i (p := a) (rdProf hF4.read).1 (rdProf hF4.read).2 (by omega)).mono ?_
  rw [HeS.out]
  rintro e w1 ⟨rfl, os5, d5, rfl⟩
  clear hF4
  have hG' : Gro Z3 (gro (gro Z3 os4 d4) os5 d5) := (by repeat (first | with_reducible exact Gro.refl _ | with_reducible exact Gro.refl_drew _ _ _ | with_reducible exact Gro.refl_drewN _ _ _ _ | assumption | with_reducible apply Gro.more | with_reducible apply Gro.alloc | with_reducible apply Gro.drew | with_reducible apply Gro.drewN))
  have Bp' := Bp.up hG'
  have Bq' := Bq.up hG'
  have Bk' := Bk.up hG'
  have Bn' := Bn.up hG'
  have G' := G3.trans hG'
  clear yp0 yp1 ypl Bp yq0 yq1 yql Bq yk0 yk1 ykl Bk yn0 yn1 ynl Bn  G3
  generalize (gro (gro Z3 os4 d4) os5 d5) = Z4 at Bp' Bq' Bk' Bn'   G' ⊢
  clear hG'
  have Bp := Bp'
  obtain ⟨yp0, yp1, ypl⟩ := Bp.cells
  have Bq := Bq'
  obtain ⟨yq0, yq1, yql⟩ := Bq.cells
  have Bk := Bk'
  obtain ⟨yk0, yk1, ykl⟩ := Bk.cells
  have Bn := Bn'
  obtain ⟨yn0, yn1, ynl⟩ := Bn.cells
  have G4 := G'
  clear G' Bp' Bq' Bk' Bn' 
  go_wp2_with (fail)
  refine (tidy_i (p := q) Bq.nodes Bq.counts (by omega) (by omega) (Gro.cell G4 HM0.out)).mono ?_
  rw [Heb.out]
  rintro e w1 ⟨Ab0, cb0, Ab1, cb1, rfl, hF6, os6, d6, rfl⟩
  go_wp2_with (fail)
  refine (encP_i (p := b) (rdProf hF6.read).1 (rdProf hF6.read).2 (by omega)).mono ?_
  rw [HeT.out]
  rintro e w1 ⟨rfl, os7, d7, rfl⟩
  clear hF6
  have hG' : Gro Z4 (gro (gro Z4 os6 d6) os7 d7) := (by repeat (first | with_reducible exact Gro.refl _ | with_reducible exact Gro.refl_drew _ _ _ | with_reducible exact Gro.refl_drewN _ _ _ _ | assumption | with_reducible apply Gro.more | with_reducible apply Gro.alloc | with_reducible apply Gro.drew | with_reducible apply Gro.drewN))
  have Bp' := Bp.up hG'
  have Bq' := Bq.up hG'
  have Bk' := Bk.up hG'
  have Bn' := Bn.up hG'
  have G' := G4.trans hG'
  clear yp0 yp1 ypl Bp yq0 yq1 yql Bq yk0 yk1 ykl Bk yn0 yn1 ynl Bn  G4
  generalize (gro (gro Z4 os6 d6) os7 d7) = Z5 at Bp' Bq' Bk' Bn'   G' ⊢
  clear hG'
  have Bp := Bp'
  obtain ⟨yp0, yp1, ypl⟩ := Bp.cells
  have Bq := Bq'
  obtain ⟨yq0, yq1, yql⟩ := Bq.cells
  have Bk := Bk'
  obtain ⟨yk0, yk1, ykl⟩ := Bk.cells
  have Bn := Bn'
  obtain ⟨yn0, yn1, ynl⟩ := Bn.cells
  have G5 := G'
  clear G' Bp' Bq' Bk' Bn' 
  go_wp2_with (fail)
  refine (namesOf_i (p := p) Bp.nodes Bp.counts (by omega)).mono ?_
  rw [Hen.out]
  rintro e w1 ⟨An, cn, rfl, hF8, os8, d8, rfl⟩
  have hN := hF8.read
  clear hF8
  have hG' : Gro Z5 (gro Z5 os8 d8) := (by repeat (first | with_reducible exact Gro.refl _ | with_reducible exact Gro.refl_drew _ _ _ | with_reducible exact Gro.refl_drewN _ _ _ _ | assumption | with_reducible apply Gro.more | with_reducible apply Gro.alloc | with_reducible apply Gro.drew | with_reducible apply Gro.drewN))
  have Bp' := Bp.up hG'
  have Bq' := Bq.up hG'
  have Bk' := Bk.up hG'
  have Bn' := Bn.up hG'
  have G' := G5.trans hG'
  clear yp0 yp1 ypl Bp yq0 yq1 yql Bq yk0 yk1 ykl Bk yn0 yn1 ynl Bn  G5
  generalize (gro Z5 os8 d8) = Z6 at Bp' Bq' Bk' Bn'  hN G' ⊢
  clear hG'
  have Bp := Bp'
  obtain ⟨yp0, yp1, ypl⟩ := Bp.cells
  have Bq := Bq'
  obtain ⟨yq0, yq1, yql⟩ := Bq.cells
  have Bk := Bk'
  obtain ⟨yk0, yk1, ykl⟩ := Bk.cells
  have Bn := Bn'
  obtain ⟨yn0, yn1, ynl⟩ := Bn.cells
  have G6 := G'
  clear G' Bp' Bq' Bk' Bn' 
  go_wp2_with (fail)
  go_loopw [13] (fun x wr => ∃ j : Nat, x = .int .i64 j ∧ 1 ≤ j ∧ Hid (Gro Z6 wr)) (fun x _ => ns.length + 1 - (intOf x).toNat)
  case atStart => exact ⟨1, rfl, by omega, Gro.refl _⟩
  case round =>
    obtain ⟨j, rfl, hj, hG⟩ := hrel
    obtain ⟨os, d, rfl⟩ := hG.out
    clear hG
    by_cases hlt : j < ns.length
    · obtain ⟨i, hji⟩ : ∃ i, j = i + 1 := ⟨j - 1, by omega⟩
      obtain ⟨g, off, x, hAe, hxk, hx0, bx0⟩ := strs_at hN hlt
      obtain ⟨g', off', y, hAe', hyk, hy0, by0⟩ := strs_at hN (k := i) (by omega)
      subst hAe
      injection hAe' with hAe'
      injection hAe' with e1 e2
      subst e1 e2
      have hc0 := gro_keeps hx0 os d
      have hc1 := gro_keeps hy0 os d
      have hasc := Hhasc.out i y x hyk (by rw [← hji]; exact hxk)
      have hbl : Op.bytesLess x.toList y.toList = false := by rw [bytesLess_dec, toList_dat, toList_dat]; exact decide_eq_false (fun h => bl_irrefl _ (bl_trans h hasc))
      have hbe : (x.toList == y.toList) = false := by rw [str_eqb]; exact decide_eq_false (fun h => by rw [h] at hasc; exact bl_irrefl _ hasc)
      have hw2 : IntKind.i64.wrap ((j : Int) - 1) = (i : Int) := (IntWalk.i64_in _ ⟨by omega, by omega⟩).trans (by omega)
      have hbo : (Op.bytesLess x.toList y.toList || (x.toList == y.toList)) = false := by rw [hbl, hbe]; rfl
      have hlt2 : (j : Int) < (ns.length : Int) := by omega
      have hlt3 : (i : Int) < (ns.length : Int) := by omega
      have HJI := Lib.hid hji
      clear hyk hxk hasc hji
      go_wp2_with (fail)
      go_quiet (fail)
      go_wp2_with (fail)
      go_roundw
      case rel => exact ⟨j + 1, by go_num, by omega, Lib.hid (by repeat (first | with_reducible exact Gro.refl _ | with_reducible exact Gro.refl_drew _ _ _ | with_reducible exact Gro.refl_drewN _ _ _ _ | assumption | with_reducible apply Gro.more | with_reducible apply Gro.alloc | with_reducible apply Gro.drew | with_reducible apply Gro.drewN))⟩
      case measure => simp [intOf]; omega
    · have hge : ¬ (j : Int) < (ns.length : Int) := by omega
      go_wp2_with (fail)
      have zp0 := gro_keeps yp0 os d
      have zp1 := gro_keeps yp1 os d
      have zq0 := gro_keeps yq0 os d
      have zq1 := gro_keeps yq1 os d
      have zk0 := gro_keeps yk0 os d
      have zk1 := gro_keeps yk1 os d
      first | (go_region_held3 (fun w' => w'.cell? ⟨np, 0, none⟩ = some (.slice Ap0 p.Stacks.Nodes.length cp0) ∧ w'.cell? ⟨np, 1, none⟩ = some (.slice Ap1 p.Counts.length cp1) ∧ w'.cell? ⟨(np + 1), 0, none⟩ = some (.slice Aq0 q.Stacks.Nodes.length cq0) ∧ w'.cell? ⟨(np + 1), 1, none⟩ = some (.slice Aq1 q.Counts.length cq1) ∧ w'.cell? ⟨nk, 0, none⟩ = some (.slice Ak0 p.Stacks.Nodes.length ck0) ∧ w'.cell? ⟨nk, 1, none⟩ = some (.slice Ak1 p.Counts.length ck1)) ((repeat' apply And.intro) <;> (first | ((repeat (first | assumption | with_reducible refine gro_keeps ?_ _ _ | with_reducible refine alloc_keeps ?_ _ | with_reducible refine drew_keeps ?_)); done) | (simp [go_sem]; done))) (first
        | (go_at_call 10; (with_reducible refine (samep_i (p := p) (q := p) (Ty.up _ Bk.nodes (by (repeat (first | with_reducible exact Gro.refl _ | with_reducible exact Gro.refl_drew _ _ _ | with_reducible exact Gro.refl_drewN _ _ _ _ | assumption | with_reducible apply Gro.more | with_reducible apply Gro.alloc | with_reducible apply Gro.drew | with_reducible apply Gro.drewN)); done)) (Ty.up _ Bk.counts (by (repeat (first | with_reducible exact Gro.refl _ | with_reducible exact Gro.refl_drew _ _ _ | with_reducible exact Gro.refl_drewN _ _ _ _ | assumption | with_reducible apply Gro.more | with_reducible apply Gro.alloc | with_reducible apply Gro.drew | with_reducible apply Gro.drewN)); done)) (by omega) (Ty.up _ Bp.nodes (by (repeat (first | with_reducible exact Gro.refl _ | with_reducible exact Gro.refl_drew _ _ _ | with_reducible exact Gro.refl_drewN _ _ _ _ | assumption | with_reducible apply Gro.more | with_reducible apply Gro.alloc | with_reducible apply Gro.drew | with_reducible apply Gro.drewN)); done)) (Ty.up _ Bp.counts (by (repeat (first | with_reducible exact Gro.refl _ | with_reducible exact Gro.refl_drew _ _ _ | with_reducible exact Gro.refl_drewN _ _ _ _ | assumption | with_reducible apply Gro.more | with_reducible apply Gro.alloc | with_reducible apply Gro.drew | with_reducible apply Gro.drewN)); done)) (by omega)).mono ?_); rw [Hf1.out]; rintro e u1 ⟨rfl, ou1, du1, rfl⟩)
        | (go_at_call 11; (with_reducible refine (samep_s (p := p) (q := q) (Ty.up _ Bp.nodes (by (repeat (first | with_reducible exact Gro.refl _ | with_reducible exact Gro.refl_drew _ _ _ | with_reducible exact Gro.refl_drewN _ _ _ _ | assumption | with_reducible apply Gro.more | with_reducible apply Gro.alloc | with_reducible apply Gro.drew | with_reducible apply Gro.drewN)); done)) (Ty.up _ Bp.counts (by (repeat (first | with_reducible exact Gro.refl _ | with_reducible exact Gro.refl_drew _ _ _ | with_reducible exact Gro.refl_drewN _ _ _ _ | assumption | with_reducible apply Gro.more | with_reducible apply Gro.alloc | with_reducible apply Gro.drew | with_reducible apply Gro.drewN)); done)) (by omega) (Ty.up _ Bq.nodes (by (repeat (first | with_reducible exact Gro.refl _ | with_reducible exact Gro.refl_drew _ _ _ | with_reducible exact Gro.refl_drewN _ _ _ _ | assumption | with_reducible apply Gro.more | with_reducible apply Gro.alloc | with_reducible apply Gro.drew | with_reducible apply Gro.drewN)); done)) (Ty.up _ Bq.counts (by (repeat (first | with_reducible exact Gro.refl _ | with_reducible exact Gro.refl_drew _ _ _ | with_reducible exact Gro.refl_drewN _ _ _ _ | assumption | with_reducible apply Gro.more | with_reducible apply Gro.alloc | with_reducible apply Gro.drew | with_reducible apply Gro.drewN)); done)) (by omega)).mono ?_); rw [HhE.out]; rintro e u2 ⟨rfl, ou2, du2, rfl⟩)
        | (go_at_call 8; (with_reducible refine (tidy_i (p := p) (Ty.up _ Bp.nodes (by (repeat (first | with_reducible exact Gro.refl _ | with_reducible exact Gro.refl_drew _ _ _ | with_reducible exact Gro.refl_drewN _ _ _ _ | assumption | with_reducible apply Gro.more | with_reducible apply Gro.alloc | with_reducible apply Gro.drew | with_reducible apply Gro.drewN)); done)) (Ty.up _ Bp.counts (by (repeat (first | with_reducible exact Gro.refl _ | with_reducible exact Gro.refl_drew _ _ _ | with_reducible exact Gro.refl_drewN _ _ _ _ | assumption | with_reducible apply Gro.more | with_reducible apply Gro.alloc | with_reducible apply Gro.drew | with_reducible apply Gro.drewN)); done)) (by omega) (by omega) (Gro.cell (G6.trans (by (repeat (first | with_reducible exact Gro.refl _ | with_reducible exact Gro.refl_drew _ _ _ | with_reducible exact Gro.refl_drewN _ _ _ _ | assumption | with_reducible apply Gro.more | with_reducible apply Gro.alloc | with_reducible apply Gro.drew | with_reducible apply Gro.drewN)); done)) HM0.out)).mono ?_); rw [Hea.out]; rintro e u3 ⟨Aa0, ca0, Aa1, ca1, rfl, hFa, ou3, du3, rfl⟩)
        | (go_at_call 10; (with_reducible refine (samep_i (p := a) (q := p) (Ty.up _ (rdProf hFa.read).1 (by (repeat (first | with_reducible exact Gro.refl _ | with_reducible exact Gro.refl_drew _ _ _ | with_reducible exact Gro.refl_drewN _ _ _ _ | assumption | with_reducible apply Gro.more | with_reducible apply Gro.alloc | with_reducible apply Gro.drew | with_reducible apply Gro.drewN)); done)) (Ty.up _ (rdProf hFa.read).2 (by (repeat (first | with_reducible exact Gro.refl _ | with_reducible exact Gro.refl_drew _ _ _ | with_reducible exact Gro.refl_drewN _ _ _ _ | assumption | with_reducible apply Gro.more | with_reducible apply Gro.alloc | with_reducible apply Gro.drew | with_reducible apply Gro.drewN)); done)) (by omega) (Ty.up _ Bp.nodes (by (repeat (first | with_reducible exact Gro.refl _ | with_reducible exact Gro.refl_drew _ _ _ | with_reducible exact Gro.refl_drewN _ _ _ _ | assumption | with_reducible apply Gro.more | with_reducible apply Gro.alloc | with_reducible apply Gro.drew | with_reducible apply Gro.drewN)); done)) (Ty.up _ Bp.counts (by (repeat (first | with_reducible exact Gro.refl _ | with_reducible exact Gro.refl_drew _ _ _ | with_reducible exact Gro.refl_drewN _ _ _ _ | assumption | with_reducible apply Gro.more | with_reducible apply Gro.alloc | with_reducible apply Gro.drew | with_reducible apply Gro.drewN)); done)) (by omega)).mono ?_); rw [Hf2.out]; rintro e u4 ⟨rfl, ou4, du4, rfl⟩)
        | fail)) | fail
      go_wp2_with (fail)
      go_ret
      exact ⟨rfl, G6.trans (by (repeat (first | with_reducible exact Gro.refl _ | with_reducible exact Gro.refl_drew _ _ _ | with_reducible exact Gro.refl_drewN _ _ _ _ | assumption | with_reducible apply Gro.more | with_reducible apply Gro.alloc | with_reducible apply Gro.drew | with_reducible apply Gro.drewN)); done)⟩

set_option maxRecDepth 100000 in
theorem lifted (os : Os) (started : os.Started) (H : Type) (enc : TypeId × Value → H) :
    ReturnsInHanded {} Tryz.checked os 3 .any (fun w args => (Rows.fnStoredSpec.pre enc Tryz.prog Tryz.f3 Rows.fnStoredRow.domain false w args ∧ laidMetH Tryz.prog Rows.fnStoredRow.laid w) ∧ sizedMet enc Tryz.prog Tryz.f3 (OpenSpec.ofChange Rows.fnStoredSpec) false w args) (Rows.fnStoredSpec.post enc Tryz.prog Tryz.f3 false true false false) := by
  refine returns_and_shaped (C := Tryz.checked) (X := fun w _ => laidMetH Tryz.prog Rows.fnStoredRow.laid w) (fun _ _ _ hh h => h.of_heap hh) own started (by kernel_rfl) Tryz.func3
    (ChangeSpec.witness_shaped (enc := enc) (C := Tryz.checked) (os := os) (X := fun w _ => laidMetH Tryz.prog Rows.fnStoredRow.laid w) false (World.laidAll Tryz.prog os Rows.fnStoredRow.laid) #[.slice none 0 0] 8 (World.laidAll_os _ _ _) (World.shaped_of_ZipB (by kernel_rfl) (by kernel_rfl)) (by kernel_rfl) (by kernel_rfl) (by kernel_rfl) (by rw [MakeChecks.laidMetH_plain _ _ _ (by kernel_rfl)]; exact laidMet_laidAll _ (by kernel_rfl) (by kernel_rfl))) ?_
  intro W base args ds gs before hval0 hW _ _ hL hSH _
  obtain ⟨mlen, hmlen⟩ := max_len hSH
  have hval : ∀ (j : Nat) t v, Tryz.f3.params[j]? = some t → args[j]? = some v → Value.okWide Tryz.prog W .any base t v := hval0
  have hW' := hW
  obtain ⟨p, q, hA0, hV, rfl, hfz, hnd⟩ := hW
  have hA : DataW.TrodAll enc Tryz.prog W 0 (fun _ => true) true Tryz.f3.params.toList args.toList ds p := hA0
  rw [Tryz.params3] at hA hval
  obtain ⟨v0, vs0, d0, ds0, p0, q0, hargs, rfl, rfl, h0, r0⟩ := trodAll_cons hA
  obtain ⟨rfl, rfl, rfl⟩ := trodAll_nil r0
  obtain rfl : args = #[v0] := by cases args; simp_all
  obtain ⟨rfl, rfl⟩ := trodVars_none hV
  have k0 := h0
  have lt0 : ∀ x ∈ p0, x.block < W.heap.size := by obtain ⟨m, hm⟩ := k0; exact DataW.trod_lt m _ _ _ hm
  obtain ⟨a0, w0⟩ := arg_open (opens_sl (e' := 5) Tryz.underlying22 (by kernel_rfl) (by decide) (opens_byte Tryz.underlying5)) h0
  rw [arg_slice Tryz.underlying22 (hval 0 22 v0 rfl rfl)] at w0
  clear hA0 hval0
  refine (walk W v0 a0 w0 hmlen).mono fun e W' ⟨he, hgro⟩ => ?_
  subst he
  have bel := hgro.below
  exact ⟨_, rfl, _, _, _, [], _, [], hW', trodAll_mk1 (shut_bool Tryz.underlying4 _), (trodAll_cons_mk (Below.trod laidOut (by kernel_rfl) (of_decide_eq_true (by kernel_rfl)) k0 bel lt0) trodAll_mk0), rfl, bel.frame _, fun h => by cases h⟩
theorem over : Rows.fnStoredRow.holds Tryz.pinned (OpenSpec.ofChange Rows.fnStoredSpec) :=
  OpenClaim.holds_of_wide 3 Tryz.f3 rfl rfl rfl rfl rfl rfl rfl ⟨rfl, rfl, rfl, rfl, rfl⟩ rfl rfl rfl rfl rfl (by kernel_rfl) Tryz.func3 (by kernel_rfl)
    (of_decide_eq_true (by kernel_rfl)) (by unfold Func.isWrapper; first | (rw [if_pos (by decide +kernel)]; kernel_rfl) | (rw [if_neg (by decide +kernel)]; exact ⟨rfl, rfl⟩))
    (fun os started H enc _ => lifted os started H enc)
/-- THE STATEMENT: the tied card -/
theorem proved : Rows.FnStoredCardSaid :=
  Claim7.holds_tied_plain_at .later [] [.data, .data, .data, .data, .pinned] true (true, "57ec068b171e606b920a97e141f2e98d99c95f25153a5495c00af62271067c4a") false
    over (fun _ h => by cases h) (by kernel_rfl) (fun _ h => by cases h) fnStored_row_tie rfl ⟨rfl, rfl⟩ (by kernel_rfl) rfl
    (fun f fn hf hfn => by
      obtain rfl : f = 3 := Option.some.inj ((show Tryz.prog.funcNamed "loop.example/g03314/laws.FnStored" = some 3 by kernel_rfl).symm.trans hf) |>.symm
      obtain rfl : fn = Tryz.f3 := (Option.some.inj (Tryz.func3.symm.trans hfn)).symm
      exact ⟨by kernel_rfl, fun j t ht => by
        rw [Tryz.params3] at ht
        have hm : t ∈ [22] := by simpa using Array.mem_of_getElem? ht
        have hall : ([22].all fun u => !Tryz.prog.wantsStandIn u) = true := by kernel_rfl
        exact (show Tryz.prog.wantsStandIn t = false by simpa using List.all_eq_true.1 hall t hm)⟩)
    (by kernel_rfl)
#print axioms proved
end Go.Proofs.YtcomafmiclkmhaaGreatDoor.fnStored
