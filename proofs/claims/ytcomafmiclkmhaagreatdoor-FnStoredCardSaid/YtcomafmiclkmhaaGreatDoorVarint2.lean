/-
  VARINT, PART 2: DecodeVarint.
-/
import Derived.Test.YtcomafmiclkmhaaGreatDoorVarint
import Derived.Test.YtcomafmiclkmhaaGreatDoorStacks
set_option linter.unusedVariables false
set_option linter.unusedSimpArgs false
namespace Go.Proofs.YtcomafmiclkmhaaGreatDoor
open Go.RowKit
def decGo (L : List UInt8) (a : Nat) : Nat → Nat → Nat → Nat × Nat × Bool
  | 0, _, _ => (0, 0, false)
  | f + 1, k, n => match L[a + k]? with
    | none => (0, 0, false)
    | some b => if b.toNat < 128 then (if (encV ((n + b.toNat % 128 * 128 ^ k : Nat) : Int)).data.toList = (L.drop a).take (k + 1) then (n + b.toNat % 128 * 128 ^ k, k + 1, true) else (0, 0, false)) else decGo L a f (k + 1) (n + b.toNat % 128 * 128 ^ k)
theorem decGo_some {L : List UInt8} {a f k n : Nat} {b : UInt8} (h : L[a + k]? = some b) : decGo L a (f + 1) k n = if b.toNat < 128 then (if (encV ((n + b.toNat % 128 * 128 ^ k : Nat) : Int)).data.toList = (L.drop a).take (k + 1) then (n + b.toNat % 128 * 128 ^ k, k + 1, true) else (0, 0, false)) else decGo L a f (k + 1) (n + b.toNat % 128 * 128 ^ k) := by
  rw [decGo, h]
theorem decGo_none {L : List UInt8} {a f k n : Nat} (h : L[a + k]? = none) : decGo L a (f + 1) k n = (0, 0, false) := by
  rw [decGo, h]
def decV (s : ByteArray) (a : Int) : Nat × Nat × Bool := if 0 ≤ a then decGo s.data.toList a.toNat 6 0 0 else (0, 0, false)
def RetDec (p : Nat × Nat × Bool) (w : World) (e : Ending) (w' : World) : Prop := e = .returned (.tuple #[.int .i64 p.1, .int .i64 p.2.1, .bool p.2.2]) ∧ Gro w w'
theorem ret_dec {p q : Nat × Nat × Bool} (h : p = q) {w w' : World} (hG : Gro w w') : RetDec p w (.returned (.tuple #[.int .i64 q.1, .int .i64 q.2.1, .bool q.2.2])) w' := by
  subst h
  exact ⟨rfl, hG⟩
theorem ext_list (s : ByteArray) (a b : Nat) : (s.extract a b).data.toList = (s.data.toList.drop a).take (b - a) := by
  rw [ByteArray.data_extract, Array.toList_extract]
theorem decV_out {s : ByteArray} {a : Int} (hb : btw a 0 ((s.size : Int) - 1) = false) : decV s a = (0, 0, false) := by
  unfold decV
  split
  · rename_i h0
    obtain ⟨n, rfl⟩ := Int.eq_ofNat_of_zero_le h0
    have hn : s.data.toList[(n : Int).toNat + 0]? = none := by
      rw [List.getElem?_eq_none_iff]
      have h1 : s.data.toList.length = s.size := by rw [Array.length_toList]; rfl
      have : ¬ (n : Int) ≤ s.size - 1 := fun h => by rw [btw_mk (by omega) h] at hb; cases hb
      rw [h1, Int.toNat_natCast]
      omega
    exact decGo_none hn
  · rfl
theorem pow128 (j : Nat) : (2 : Int) ^ (7 * j) = ((128 ^ j : Nat) : Int) := by
  rw [Int.pow_mul]
  norm_cast
theorem u8_and127 (b : UInt8) : bits .and .u8 (b.toNat : Int) 127 = (b.toNat : Int) % 128 := bits_mask .u8 8 (by decide) wraps_u8 7 (by decide) _ (by omega) (by have := b.toNat_lt; omega)
theorem or_step {m j : Nat} (b : UInt8) (hj : j < 6) (hm : m < 128 ^ j) : bits .or .i64 (m : Int) (wrap64 ((b.toNat : Int) % 128 * 2 ^ (7 * j))) = ((m + b.toNat % 128 * 128 ^ j : Nat) : Int) ∧ m + b.toNat % 128 * 128 ^ j < 128 ^ (j + 1) ∧ m + b.toNat % 128 * 128 ^ j < 4398046511104 := by
  have hp : 128 ^ (j + 1) ≤ 4398046511104 := by
    have h := Nat.pow_le_pow_right (show 0 < 128 by omega) (show j + 1 ≤ 6 by omega)
    exact h
  have hb : b.toNat % 128 ≤ 127 := by omega
  have hmul : b.toNat % 128 * 128 ^ j ≤ 127 * 128 ^ j := Nat.mul_le_mul_right _ hb
  have hs : (128 : Nat) ^ (j + 1) = 128 * 128 ^ j := by rw [Nat.pow_succ, Nat.mul_comm]
  have e1 : ((b.toNat : Int) % 128 * 2 ^ (7 * j)) = ((b.toNat % 128 * 128 ^ j : Nat) : Int) := by
    rw [pow128]; push_cast; rfl
  have e2 : wrap64 ((b.toNat % 128 * 128 ^ j : Nat) : Int) = ((b.toNat % 128 * 128 ^ j : Nat) : Int) := wrap64_small (by omega) (by omega)
  refine ⟨?_, by omega, by omega⟩
  rw [e1, e2, bits_or_comm, bits_join .i64 62 (by decide) wraps_i64 (7 * j) _ _ (by omega) (by rw [pow128]; norm_cast; exact Nat.mul_mod_left _ _) (by norm_cast; omega) (by omega) (by rw [pow128]; exact_mod_cast hm) (by norm_cast; omega)]
  push_cast
  omega
set_option maxRecDepth 100000 in
theorem decV_i (s : ByteArray) (a : Int) (w : World) (hs : s.size ≤ 1099511627776) (ha : I64 a) : Calls Tryz.prog 34 #[.string s, .int .i64 a] w (RetDec (decV s a) w) := by
  obtain ⟨ha1, ha2⟩ := ha
  cases hb : btw a 0 ((s.size : Int) - 1)
  · have HS := Lib.hid (decV_out hb)
    have HB := Lib.hid hb
    clear hb
    go_enter Tryz.func34, Tryz.ntmps34
    go_wp2_with (go_at_call 33; (with_reducible refine (in_i _ _ _ _).mono ?_); rw [HB.out]; rintro e w1 ⟨rfl, rfl⟩)
    go_ret3
    exact ret_dec HS.out (by repeat (first | with_reducible exact Gro.refl _ | with_reducible exact Gro.refl_drew _ _ _ | with_reducible exact Gro.refl_drewN _ _ _ _ | assumption | with_reducible apply Gro.more | with_reducible apply Gro.alloc | with_reducible apply Gro.drew | with_reducible apply Gro.drewN))
  · obtain ⟨hb1, hb2⟩ := btw_iff.1 hb
    have HB := Lib.hid hb
    clear hb
    obtain ⟨a, rfl⟩ := Int.eq_ofNat_of_zero_le hb1
    have HS := Lib.hid (show decV s a = decGo s.data.toList a 6 0 0 from by simp [decV])
    go_enter Tryz.func34, Tryz.ntmps34
    go_wp2_with (go_at_call 33; (with_reducible refine (in_i _ _ _ _).mono ?_); rw [HB.out]; rintro e w1 ⟨rfl, rfl⟩)
    go_loopw [7, 8] (fun x y wr => ∃ (m j : Nat), x = .int .i64 m ∧ y = .int .i64 j ∧ j ≤ 6 ∧ Hid (m < 128 ^ j) ∧ m < 4398046511104 ∧ Hid (decGo s.data.toList a (6 - j) j m = decGo s.data.toList a 6 0 0) ∧ Hid (Gro w wr)) (fun _ y _ => 6 - (intOf y).toNat)
    case atStart => exact ⟨0, 0, rfl, rfl, by omega, Lib.hid (by omega), by omega, Lib.hid rfl, Lib.hid (by repeat (first | with_reducible exact Gro.refl _ | with_reducible exact Gro.refl_drew _ _ _ | with_reducible exact Gro.refl_drewN _ _ _ _ | assumption | with_reducible apply Gro.more | with_reducible apply Gro.alloc | with_reducible apply Gro.drew | with_reducible apply Gro.drewN))⟩
    case round =>
      obtain ⟨m, j, rfl, rfl, hj, hm, hm2, HT, hG⟩ := hrel
      obtain ⟨os, d, rfl⟩ := hG.out
      clear hG
      by_cases hj6 : j < 6
      · obtain ⟨f, hf⟩ : ∃ f, 6 - j = f + 1 := ⟨5 - j, by omega⟩
        have HFu := Lib.hid hf
        have HF2 := Lib.hid (show 6 - (j + 1) = f by omega)
        clear hf
        by_cases hlt : a + j < s.size
        · have HX := Lib.hid (bytes_get s (a + j) hlt)
          obtain ⟨hx1, hx2⟩ : 0 ≤ (s[a + j].toNat : Int) ∧ (s[a + j].toNat : Int) ≤ 255 := by have := s[a + j].toNat_lt; omega
          obtain ⟨o1, o2, o3⟩ := or_step s[a + j] hj6 hm.out
          obtain ⟨v, hv⟩ : ∃ v, m + s[a + j].toNat % 128 * 128 ^ j = v := ⟨_, rfl⟩
          rw [hv] at o1 o2 o3
          have HV := Lib.hid hv
          have O2 := Lib.hid o2
          clear hv o2
          have HD := Lib.hid (decGo_some (f := f) (n := m) HX.out)
          by_cases hb127 : 127 < (s[a + j].toNat : Int)
          · have e1 := i64_and127 (s[a + j].toNat : Int)
            go_wp2_with (fail)
            go_roundw
            case rel => exact ⟨v, j + 1, rfl, by go_num, by omega, O2, by omega, Lib.hid (by rw [← HT.out, HFu.out, HF2.out, HD.out, if_neg (by omega), HV.out]), Lib.hid (by repeat (first | with_reducible exact Gro.refl _ | with_reducible exact Gro.refl_drew _ _ _ | with_reducible exact Gro.refl_drewN _ _ _ _ | assumption | with_reducible apply Gro.more | with_reducible apply Gro.alloc | with_reducible apply Gro.drew | with_reducible apply Gro.drewN))⟩
            case measure => simp [intOf]; omega
          · have e1 := i64_and127 (s[a + j].toNat : Int)
            by_cases hq : encV v = s.extract a (a + j + 1)
            · have hQ := Lib.hid (show decV s a = (v, j + 1, true) from by
                rw [HS.out, ← HT.out, HFu.out, HD.out, if_pos (by omega), HV.out, if_pos (by rw [hq, ext_list, show a + j + 1 - a = j + 1 from by omega])])
              have hq2 : ((encV (v : Int)).toList == (s.extract a ((a : Int) + j + 1).toNat).toList) = true := by
                rw [str_eqb, hq, show ((a : Int) + j + 1).toNat = a + j + 1 from by omega]; simp
              clear hq
              go_wp2_with (fail)
              have w1 : IntKind.i64.wrap ((a : Int) + j) = (a : Int) + j := IntWalk.i64_in _ (by omega)
              have w2 : IntKind.i64.wrap ((a : Int) + j + 1) = (a : Int) + j + 1 := IntWalk.i64_in _ (by omega)
              have w3 : (0 : Int) ≤ (a : Int) + j + 1 := by omega
              have w4 : (a : Int) + j + 1 ≤ s.size := by omega
              have w5 : (a : Int) ≤ (a : Int) + j + 1 := by omega
              go_region_held3 (fun w' => True) (trivial) (first | (go_at_call 15; refine (encV_i _ _).mono ?_; rintro e w2 ⟨rfl, os2, d2, rfl⟩))
              go_wp2
              go_ret3
              exact ret_dec (q := (v, j + 1, true)) hQ.out (by repeat (first | with_reducible exact Gro.refl _ | with_reducible exact Gro.refl_drew _ _ _ | with_reducible exact Gro.refl_drewN _ _ _ _ | assumption | with_reducible apply Gro.more | with_reducible apply Gro.alloc | with_reducible apply Gro.drew | with_reducible apply Gro.drewN))
            · have hQ := Lib.hid (show decV s a = (0, 0, false) from by
                rw [HS.out, ← HT.out, HFu.out, HD.out, if_pos (by omega), HV.out, if_neg]
                intro h
                refine hq (ByteArray.ext (Array.toList_inj.1 ?_))
                rw [h, ext_list, show a + j + 1 - a = j + 1 from by omega])
              have hq2 : ((encV (v : Int)).toList == (s.extract a ((a : Int) + j + 1).toNat).toList) = false := by
                rw [str_eqb, show ((a : Int) + j + 1).toNat = a + j + 1 from by omega]; simp [hq]
              clear hq
              go_wp2_with (fail)
              have w1 : IntKind.i64.wrap ((a : Int) + j) = (a : Int) + j := IntWalk.i64_in _ (by omega)
              have w2 : IntKind.i64.wrap ((a : Int) + j + 1) = (a : Int) + j + 1 := IntWalk.i64_in _ (by omega)
              have w3 : (0 : Int) ≤ (a : Int) + j + 1 := by omega
              have w4 : (a : Int) + j + 1 ≤ s.size := by omega
              have w5 : (a : Int) ≤ (a : Int) + j + 1 := by omega
              go_region_held3 (fun w' => True) (trivial) (first | (go_at_call 15; refine (encV_i _ _).mono ?_; rintro e w2 ⟨rfl, os2, d2, rfl⟩))
              go_wp2
              go_ret3
              exact ret_dec (q := (0, 0, false)) hQ.out (by repeat (first | with_reducible exact Gro.refl _ | with_reducible exact Gro.refl_drew _ _ _ | with_reducible exact Gro.refl_drewN _ _ _ _ | assumption | with_reducible apply Gro.more | with_reducible apply Gro.alloc | with_reducible apply Gro.drew | with_reducible apply Gro.drewN))
        · have hQ := Lib.hid (show decV s a = (0, 0, false) from by
            rw [HS.out, ← HT.out, HFu.out, decGo_none]
            rw [List.getElem?_eq_none_iff, Array.length_toList]
            exact Nat.le_of_not_lt hlt)
          go_wp2_with (fail)
          go_ret3
          exact ret_dec (q := (0, 0, false)) hQ.out (by repeat (first | with_reducible exact Gro.refl _ | with_reducible exact Gro.refl_drew _ _ _ | with_reducible exact Gro.refl_drewN _ _ _ _ | assumption | with_reducible apply Gro.more | with_reducible apply Gro.alloc | with_reducible apply Gro.drew | with_reducible apply Gro.drewN))
      · have hje : j = 6 := by omega
        subst hje
        have hQ := Lib.hid (show decV s a = (0, 0, false) from by rw [HS.out, ← HT.out]; rfl)
        go_wp2_with (fail)
        go_ret3
        exact ret_dec (q := (0, 0, false)) hQ.out (by repeat (first | with_reducible exact Gro.refl _ | with_reducible exact Gro.refl_drew _ _ _ | with_reducible exact Gro.refl_drewN _ _ _ _ | assumption | with_reducible apply Gro.more | with_reducible apply Gro.alloc | with_reducible apply Gro.drew | with_reducible apply Gro.drewN))
end Go.Proofs.YtcomafmiclkmhaaGreatDoor
