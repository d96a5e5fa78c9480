/-
  LISTS of ints and strings: eqIntS, eqStringS, toIntS, toStringS, szIntS, szStringS, markIntS, heldIntS, markText, markStringS, heldStringS.
-/
import Derived.Test.YtbhobjepjaeffaaCore
import Derived.Test.YtbhobjepjaeffaaMark
import Derived.Deep.RegionHeld3
set_option linter.unusedVariables false
set_option linter.unusedSimpArgs false
namespace Go.Proofs.Ytbhobjepjaeffaa
open Go.RowKit
theorem eqIntS_l {xs ys : List Int} {w : World} {B B' : Nat} {v u : Value} (hx : (intT.sl 3).R w B [v] xs) (hy : (intT.sl 3).R w B' [u] ys) :
    Calls Try.prog 39 #[v, u] w fun e w' => e = .returned (.bool (decide (xs = ys))) ∧ Gro w w' := by
  obtain ⟨A, c, rfl, h1, h2⟩ := sl_at hx
  obtain ⟨A', c', rfl, k1, k2⟩ := sl_at hy
  by_cases hl : xs.length = ys.length
  · have hne : ((xs.length : Int) != (ys.length : Int)) = false := by simp [hl]
    have HL := Lib.hid hl
    clear hl
    go_enter Try.func39, Try.ntmps39
    go_wp2_with (fail)
    go_loopw [5] (fun i wr => ∃ k n : Nat, k ≤ xs.length ∧ i = .int .i64 k ∧ wr = w.drewN n ∧ xs.take k = ys.take k) (fun i _ => xs.length - (intOf i).toNat)
    case atStart => exact ⟨0, 0, Nat.zero_le _, rfl, rfl, by simp⟩
    case round =>
      obtain ⟨k, n, hk, rfl, rfl, htk⟩ := hrel
      have HT := Lib.hid htk
      clear htk
      by_cases hlt : k < xs.length
      · have hlt2 : k < ys.length := by rw [← HL.out]; exact hlt
        obtain ⟨g, off, x, rfl, hxk, hcx, bx1, bx2⟩ := ints_at hx hlt
        obtain ⟨g', off', y, rfl, hyk, hcy, by1, by2⟩ := ints_at hy hlt2
        have HX := Lib.hid hxk
        have HY := Lib.hid hyk
        clear hxk hyk hx hy
        by_cases hxy : x = y
        · subst hxy
          go_wp2_with (fail)
          go_quiet (fail)
          go_wp2
          go_roundw
          case rel => exact ⟨k + 1, _, by omega, by go_num, rfl, by rw [take_snoc HX.out, take_snoc HY.out, HT.out]⟩
          case measure => simp [intOf]; omega
        · have hb : (x != y) = true := by simp [hxy]
          go_wp2_with (fail)
          go_quiet (fail)
          go_wp2
          go_ret
          refine ⟨ret_bool ?_, ?_⟩
          · symm
            simp only [decide_eq_false_iff_not]
            rintro rfl
            have := HX.out.symm.trans HY.out
            simp_all
          · exact gro_of_drewN _ _
      · go_wp2
        go_ret
        refine ⟨ret_bool ?_, ?_⟩
        · have : k = xs.length := by omega
          subst this
          have h1 := HT.out
          rw [HL.out] at h1
          simp only [List.take_length] at h1
          rw [← HL.out] at h1
          simp at h1
          simp [h1]
        · exact gro_of_drewN _ _
  · have hne : ((xs.length : Int) != (ys.length : Int)) = true := by simp; omega
    go_enter Try.func39, Try.ntmps39
    go_wp2
    go_ret
    exact ⟨ret_bool (by symm; simp only [decide_eq_false_iff_not]; rintro rfl; exact hl rfl), Gro.refl _⟩
theorem run_byte_str (W : World) (x : Int) : (convert 152 9 (.slice (some ⟨W.heap.size, 0, none⟩) 1 1)).run Try.prog (W.alloc (.cells #[.int .u8 x] 5)) = .ok (.string ⟨#[UInt8.ofNat x.toNat]⟩) (W.alloc (.cells #[.int .u8 x] 5)) := by
  have h := run_convert_bytes_arg (P := Try.prog) (W.alloc (.cells #[.int .u8 x] 5)) 152 5 Try.underlying152 Try.underlying5 W.heap.size 0 1 1 [x] rfl (by
    intro i hi
    have : i = 0 := by omega
    subst this
    rw [World.cell?_alloc_at _ _ _ _ rfl]
    rfl) 9 Try.underlying9
  rw [h]
  rfl
def tdig : Nat → Nat → List UInt8 → List UInt8
  | 0, _, acc => acc
  | f + 1, n, acc => if n = 0 then acc else tdig f (n / 10) ((48 + UInt8.ofNat (n % 10)) :: acc)
theorem tdig_zero (f : Nat) (acc : List UInt8) : tdig f 0 acc = acc := by cases f <;> simp [tdig]
theorem tdig_pos {f m : Nat} (acc : List UInt8) (h : 0 < m) (hf : m ≤ f) : tdig f m acc = tdig (f - 1) (m / 10) ((48 + UInt8.ofNat (m % 10)) :: acc) := by
  obtain ⟨f', rfl⟩ : ∃ f', f = f' + 1 := ⟨f - 1, by omega⟩
  rw [tdig, if_neg (by omega)]
  rfl
theorem bytes_app (a b : List UInt8) : (⟨a.toArray⟩ : ByteArray) ++ ⟨b.toArray⟩ = ⟨(a ++ b).toArray⟩ := by
  apply toList_inj'.1
  rw [ByteArray.toList_eq, ByteArray.toList_eq]
  simp
def markTx (k : Int) : ByteArray := ⟨(109 :: tdig k.toNat k.toNat []).toArray⟩
theorem ret_str {a b : ByteArray} (h : a = b) : Ending.returned (.string a) = .returned (.string b) := by rw [h]
theorem val_str {a b : ByteArray} (h : a = b) : Value.string a = .string b := by rw [h]
theorem markText_l (k : Int) (h0 : 0 < k) (h1 : k ≤ 1099511627776) (w : World) : Calls Try.prog 92 #[.int .i64 k] w fun e w' => e = .returned (.string (markTx k)) ∧ Gro w w' := by
  obtain ⟨n, rfl⟩ := Int.eq_ofNat_of_zero_le (Int.le_of_lt h0)
  have kc := run_byte_str
  go_enter Try.func92, Try.ntmps92
  go_wp2_with (fail)
  go_loopw [0, 3] (fun a b wr => ∃ (m f : Nat) (acc : List UInt8), m + acc.length ≤ n ∧ m ≤ f ∧ a = .int .i64 m ∧ b = .string ⟨acc.toArray⟩ ∧ tdig f m acc = tdig n n [] ∧ Gro w wr) (fun a _ _ => (intOf a).toNat)
  case atStart => exact ⟨n, n, [], by simp, Nat.le_refl _, rfl, rfl, rfl, Gro.refl _⟩
  case round =>
    obtain ⟨m, f, acc, hm, hf, rfl, rfl, ht, hg⟩ := hrel
    have HT := Lib.hid ht
    clear ht
    by_cases h : 0 < m
    · go_wp2
      go_roundw
      case rel => exact ⟨m / 10, f - 1, (48 + UInt8.ofNat (m % 10)) :: acc, by simp; omega, by omega, by go_num, val_str (bytes_app [_] acc), by rw [← HT.out, tdig_pos acc h hf], hg.alloc _⟩
      case measure => simp [intOf]; omega
    · have h' : m = 0 := by omega
      subst h'
      go_wp2
      go_ret
      exact ⟨ret_str (by rw [markTx, Int.toNat_natCast, ← HT.out, tdig_zero]; exact bytes_app [_] acc), hg⟩
/-! ### marks -/
def mkStrs (xs : List ByteArray) (k : Int) : List ByteArray := mkL (fun _ k => markTx k) (fun _ => 1) xs k
def mkInts (xs : List Int) (k : Int) : List Int := mkL (fun _ k => k) (fun _ => 1) xs k
theorem mkStrs_length (xs : List ByteArray) (k : Int) : (mkStrs xs k).length = xs.length := mkL_length _ _
theorem mkInts_length (xs : List Int) (k : Int) : (mkInts xs k).length = xs.length := mkL_length _ _
theorem cnt_one {α : Type} (xs : List α) : cntL (fun _ => 1) xs = xs.length := by
  induction xs with
  | nil => rfl
  | cons x xs ih => rw [cntL_cons, ih, List.length_cons]; omega
theorem cnt_one_take {α : Type} {xs : List α} {i : Nat} (h : i ≤ xs.length) : cntL (fun _ => 1) (xs.take i) = i := by
  rw [cnt_one, List.length_take]; omega
theorem szLe {α : Type} (f : α → Nat) (xs : List α) (j : Nat) : ((xs.take j).map f).sum ≤ (xs.map f).sum := cntL_take_le (cnt := f) xs j
theorem szSnoc {α : Type} (f : α → Nat) {xs : List α} {j : Nat} {x : α} (h : xs[j]? = some x) : ((xs.take (j + 1)).map f).sum = ((xs.take j).map f).sum + f x := cntL_snoc (cnt := f) h
theorem szAll {α : Type} (f : α → Nat) {xs : List α} {j : Nat} (h : j = xs.length) : ((xs.take j).map f).sum = (xs.map f).sum := by rw [h, List.take_length]
def szRes (left : Int) (n : Nat) : Int := if (n : Int) ≤ left then left - n else -1
def szL {α : Type} (f : α → Nat) (xs : List α) : Nat := xs.length + (xs.map f).sum
theorem szL_len {α : Type} (f : α → Nat) (xs : List α) : xs.length ≤ szL f xs := Nat.le_add_right _ _
theorem szL_elem {α : Type} (f : α → Nat) {xs : List α} {j : Nat} {x : α} (h : xs[j]? = some x) : f x ≤ szL f xs := by
  have h1 := szSnoc f h
  have h2 := szLe f xs (j + 1)
  unfold szL
  omega
theorem cntL_const {α : Type} (N : Nat) (xs : List α) : cntL (fun _ => N) xs = xs.length * N := by
  induction xs with
  | nil => simp [cntL]
  | cons x xs ih => rw [cntL_cons, ih, List.length_cons, Nat.add_mul, Nat.one_mul, Nat.add_comm]
theorem cntL_const_take {α : Type} (N : Nat) {xs : List α} {i : Nat} (h : i ≤ xs.length) : cntL (fun _ => N) (xs.take i) = i * N := by
  rw [cntL_const, List.length_take, Nat.min_eq_left h]
theorem markTx_size (k : Int) (h0 : 0 < k) (h1 : k ≤ 1099511627776) : (markTx k).size ≤ 9223372036854775807 := by
  have key : ∀ (f m : Nat) (acc : List UInt8), (tdig f m acc).length ≤ m + acc.length := by
    intro f
    induction f with
    | zero => intro m acc; simp [tdig]
    | succ f ih =>
      intro m acc
      unfold tdig
      split
      · omega
      · have := ih (m / 10) ((48 + UInt8.ofNat (m % 10)) :: acc)
        simp only [List.length_cons] at this
        omega
  have := key k.toNat k.toNat []
  simp only [List.length_nil, Nat.add_zero] at this
  show (109 :: tdig k.toNat k.toNat []).toArray.size ≤ _
  simp only [List.size_toArray, List.length_cons]
  omega
theorem heldIntS_l {xs : List Int} {w : World} {B : Nat} {v : Value} {k : Int} (hB : B ≤ w.heap.size) (hx : (intT.sl 3).R w B [v] (mkInts xs k)) (h0 : 0 < k) (h1 : k + xs.length ≤ 1099511627776) :
    Calls Try.prog 41 #[v, .int .i64 k] w fun e w' => e = .returned (.int .i64 (k + xs.length)) ∧ Gro w w' := by
  obtain ⟨A, c, rfl, h2, h3⟩ := sl_at hx
  have hlen : (mkInts xs k).length = xs.length := mkL_length _ _
  rw [hlen] at h2 hx ⊢
  have HL := Lib.hid hlen
  clear hlen
  go_enter Try.func41, Try.ntmps41
  go_wp2_with (fail)
  go_loopw [1, 5] (fun a i wr => ∃ (j : Nat), j ≤ xs.length ∧ a = .int .i64 (k + j) ∧ i = .int .i64 j ∧ Gro w wr) (fun _ i _ => xs.length - (intOf i).toNat)
  case atStart => exact ⟨0, Nat.zero_le _, by simp, rfl, Gro.refl _⟩
  case round =>
    obtain ⟨j, hj, rfl, rfl, hg⟩ := hrel
    by_cases hlt : j < xs.length
    · obtain ⟨g, off, x, rfl, hxk, hcx, bx1, bx2⟩ := ints_at (Ty.gro _ hx hg hB) (k := j) (by rw [HL.out]; exact hlt)
      have hxe : x = (k + j) := by
        have := mkL_get (mk := (fun (_ : Int) k => k)) (cnt := fun _ => 1) (List.getElem?_eq_getElem hlt) k
        rw [cnt_one_take (by omega)] at this
        have h := hxk.symm.trans this
        injection h
      clear hxk hx
      subst hxe
      have hgb := World.block_lt_of_cell? _ _ hcx
      simp only at hgb
      go_wp2
      go_roundw
      case rel => exact ⟨j + 1, by omega, by go_num, by go_num, hg⟩
      case measure => simp [intOf]; omega
    · go_wp2
      have : j = xs.length := by omega
      subst this
      go_ret
      exact ⟨rfl, hg⟩
theorem markIntS_l {xs : List Int} {w : World} {A : Option Addr} {n c : Nat} {k : Int} {S : List Nat} (hO : (intT.sl 3).O w [.slice A n c] xs S) (hS : S.Nodup) (h0 : 0 < k) (h1 : k + xs.length ≤ 1099511627776) :
    Calls Try.prog 40 #[.slice A n c, .int .i64 k] w fun e w' => e = .returned (.int .i64 (k + xs.length)) ∧ (intT.sl 3).O w' [.slice A n c] (mkInts xs k) S ∧ OnlyS S w w' := by
  obtain ⟨_, _, hx, h2, h3⟩ := sl_at (Ty.read _ hO)
  injection hx with hA hn hc
  subst hA hn hc
  clear h3
  go_enter Try.func40, Try.ntmps40
  go_wp2_with (fail)
  go_loopw [1, 5] (fun a i wr => ∃ (j : Nat), j ≤ xs.length ∧ a = .int .i64 (k + j) ∧ i = .int .i64 j ∧ (intT.sl 3).O wr [.slice A xs.length c] (mkTo (fun (_ : Int) k => k) (fun _ => 1) xs k j) S ∧ OnlyS S w wr) (fun _ i _ => xs.length - (intOf i).toNat)
  case atStart => exact ⟨0, Nat.zero_le _, by simp, rfl, by rw [mkTo_zero]; exact hO, OnlyS.refl _ _⟩
  case round =>
    obtain ⟨j, hj, rfl, rfl, ho, hs⟩ := hrel
    by_cases hlt : j < xs.length
    · have hxj : xs[j]? = some xs[j] := List.getElem?_eq_getElem hlt
      obtain ⟨g, ec, Sc, rfl, hgS, hgl, hgc, hSc, hnd, hO1, hfz, hcell, hset, _⟩ := own_elem ho hS (mkTo_get hxj k)
      generalize hxe : xs[j] = x at hxj hO1
      clear hxe
      obtain ⟨rfl, b1, b2, rfl⟩ := hO1
      have hc0 := hcell 0 _ rfl
      simp only [intT, Nat.mul_one, Nat.add_zero] at hc0
      have hf0 := hfz j
      have HX := Lib.hid hxj
      have HC := Lib.hid hcell
      have HS := Lib.hid hset
      clear hcell hset hfz hxj ho hO
      go_wp2
      go_roundw
      case rel =>
        have h := HS.out 0 (.int .i64 (k + j)) (k + j) (by simp [intT]) rfl ⟨rfl, by omega, by omega, rfl⟩
        simp only [intT, Nat.mul_one, Nat.add_zero] at h
        have e := mkTo_set (mk := fun (_ : Int) k => k) (cnt := fun _ => 1) HX.out k
        rw [cnt_one_take (by omega)] at e
        rw [e] at h
        exact ⟨j + 1, by omega, by go_num, by go_num, h.1, hs.trans h.2⟩
      case measure => simp [intOf]; omega
    · go_wp2
      have : j = xs.length := by omega
      subst this
      rw [mkTo_all] at ho
      go_ret
      exact ⟨rfl, ho, hs⟩
/-! ### sizes -/
theorem szIntS_l {xs : List Int} {w : World} {B : Nat} {v : Value} {left : Int} (hx : (intT.sl 3).R w B [v] xs) (h0 : 0 ≤ left) (h1 : left ≤ 1099511627776) :
    Calls Try.prog 52 #[v, .int .i64 left] w fun e w' => e = .returned (.int .i64 (szRes left xs.length)) ∧ Gro w w' := by
  obtain ⟨A, c, rfl, h2, h3⟩ := sl_at hx
  clear hx
  by_cases h : (xs.length : Int) ≤ left
  · have HR := Lib.hid (show szRes left xs.length = left - xs.length from if_pos h)
    go_enter Try.func52, Try.ntmps52
    go_wp2
    go_ret
    exact ⟨ret_int HR.out.symm, Gro.refl _⟩
  · have HR := Lib.hid (show szRes left xs.length = -1 from if_neg h)
    go_enter Try.func52, Try.ntmps52
    go_wp2
    go_ret
    exact ⟨ret_int HR.out.symm, Gro.refl _⟩
theorem toIntS_info : (Try.prog.info? 3).map (fun i => (i.zero, i.size, i.bytes)) = some (some (.int .i64 0), 1, 8) := by kernel_rfl
theorem toIntS_l {xs : List Int} {w : World} {B : Nat} {v : Value} (hx : (intT.sl 3).R w B [v] xs) (hn : xs.length ≤ 1099511627776) :
    Calls Try.prog 56 #[v] w (RetSl intT 3 xs w) := by
  obtain ⟨A, c, rfl, h2, h3⟩ := sl_at hx
  obtain ⟨i0, hi, hz0, hz1, hz2⟩ := info_parts toIntS_info
  have hmk := run_make_rowN (P := Try.prog) 23 3 i0 _ Try.underlying23 hi hz0 .i64 .i64 xs.length xs.length (Nat.le_refl _) (by rw [hz2]; omega) (by omega)
  rw [hz1, Nat.mul_one] at hmk
  clear hz0 hz1 hz2 hi
  go_enter Try.func56, Try.ntmps56
  go_wp2_with (fail)
  go_loopw [4] (fun i wr => ∃ (j : Nat) (cur : Array Value), j ≤ xs.length ∧ i = .int .i64 j ∧ Hid (wr = w.alloc (.cells cur 3)) ∧ Hid (cur.size = xs.length ∧ Rows intT w (cur.toList.take j) (xs.take j) [])) (fun i _ => xs.length - (intOf i).toNat)
  case atStart => exact ⟨0, _, Nat.zero_le _, rfl, rfl, madeCells_size _ _, by simp [Rows]⟩
  case round =>
    obtain ⟨j, cur, hj, rfl, hw, hcur⟩ := hrel
    have hw' := hw.out
    subst hw'
    clear hw hmk
    by_cases hlt : j < xs.length
    · obtain ⟨g, off, x, rfl, hxk, hcx, bx1, bx2⟩ := ints_at hx hlt
      have hgb := World.block_lt_of_cell? _ _ hcx
      simp only at hgb
      have hsz : j < cur.size := by have := hcur.out.1; omega
      have hget : cur[j]? = some cur[j] := Array.getElem?_eq_getElem hsz
      generalize cur[j] = old at hget
      have HX := Lib.hid hxk
      clear hxk hx
      go_wp2
      go_roundw
      case rel =>
        refine ⟨j + 1, _, by omega, by go_num, rfl, by simp [hcur.out.1], ?_⟩
        rw [take_snoc HX.out, Array.toList_setIfInBounds, take_snoc (x := Value.int .i64 x) (by rw [List.getElem?_set_self]; rw [Array.length_toList]; exact hsz), List.take_set_of_le (Nat.le_refl _)]
        exact Rows.snoc hcur.out.2 ⟨rfl, bx1, bx2, rfl⟩
      case measure => simp [intOf]; omega
    · have hje : j = xs.length := by omega
      subst hje
      go_wp2
      go_ret
      obtain ⟨hcs, hrow⟩ := hcur.out
      rw [List.take_length, List.take_of_length_le (by rw [Array.length_toList]; omega)] at hrow
      exact ⟨_, _, rfl, ⟨_, own_made (heap_alloc_new w _) (hrow.keep (fun k hk => by simp at hk)) (by omega), by simp, by simp⟩, (Gro.refl _).alloc _⟩
theorem toStringS_info : (Try.prog.info? 9).map (fun i => (i.zero, i.size, i.bytes)) = some (some (.string ⟨#[]⟩), 1, 16) := by kernel_rfl
end Go.Proofs.Ytbhobjepjaeffaa
