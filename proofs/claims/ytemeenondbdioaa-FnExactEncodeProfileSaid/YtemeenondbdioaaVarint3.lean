/-
  VARINT, PART 3: Signed, PackText, UnpackText, PackInts, UnpackInts.
-/
import Derived.Test.YtemeenondbdioaaVarint2
import Derived.Test.YtemeenondbdioaaSample
import Derived.Test.YtemeenondbdioaaBytes2
import Derived.Test.YtemeenondbdioaaProfile2
import Derived.Test.YtemeenondbdioaaLists
set_option linter.unusedVariables false
set_option linter.unusedSimpArgs false
namespace Go.Proofs.Ytemeenondbdioaa
open Go.RowKit
theorem varN_len6 (k : Nat) : ∀ n, n < 128 ^ (k + 1) → (varN n).length ≤ k + 1 := by
  induction k with
  | zero => intro n h; rw [varN_lo (by simpa using h)]; simp
  | succ k ih =>
    intro n h
    by_cases hn : n < 128
    · rw [varN_lo hn]; simp
    · rw [varN_hi (by omega), List.length_cons]
      have := ih (n / 128) (by rw [Nat.pow_succ] at h; omega)
      omega
theorem varN_pos (n : Nat) : 1 ≤ (varN n).length := by
  by_cases hn : n < 128
  · rw [varN_lo hn]; simp
  · rw [varN_hi (by omega)]; simp
theorem encV_list {n : Nat} (h : n ≤ 1099511627775) : (encV n).data.toList = varN n := by
  unfold encV
  rw [if_pos (btw_mk (by omega) (by omega))]
  rfl
theorem encV_size (n : Int) : (encV n).size ≤ 6 := by
  unfold encV
  split
  · rename_i h
    obtain ⟨h1, h2⟩ := btw_iff.1 h
    have := varN_len6 5 n.toNat (by omega)
    show (varN n.toNat).toArray.size ≤ 6
    simpa using this
  · show (#[] : Array UInt8).size ≤ 6
    simp
theorem decGo_bd {L : List UInt8} {a : Nat} : ∀ (f k n : Nat) (m z : Nat), decGo L a f k n = (m, z, true) → k < z ∧ z ≤ k + f ∧ a + z ≤ L.length ∧ m ≤ 1099511627775 := by
  intro f
  induction f with
  | zero => intro k n m z h; simp [decGo] at h
  | succ f ih =>
    intro k n m z h
    cases hx : L[a + k]? with
    | none => rw [decGo_none hx] at h; simp at h
    | some b =>
      have hlt := (List.getElem?_eq_some_iff.1 hx).1
      rw [decGo_some hx] at h
      split at h
      · split at h
        · rename_i he
          simp only [Prod.mk.injEq, and_true] at h
          obtain ⟨h1, rfl⟩ := h
          refine ⟨by omega, by omega, by omega, ?_⟩
          rw [h1] at he
          by_cases hm : m ≤ 1099511627775
          · exact hm
          · exfalso
            have e0 : (encV (m : Int)).data.toList = [] := by
              unfold encV
              rw [if_neg (by simp [btw_iff]; omega)]
            rw [e0] at he
            have : ((L.drop a).take (k + 1)).length = 0 := by rw [← he]; rfl
            rw [List.length_take, List.length_drop] at this
            omega
        · simp at h
      · have := ih _ _ _ _ h
        omega
theorem decV_bd {s : ByteArray} {a : Int} {n z : Nat} (h : decV s a = (n, z, true)) : 0 ≤ a ∧ 1 ≤ z ∧ z ≤ 6 ∧ a + z ≤ s.size ∧ n ≤ 1099511627775 := by
  unfold decV at h
  split at h
  · rename_i h0
    have h1 := decGo_bd _ _ _ _ _ h
    have h2 : s.data.toList.length = s.size := by rw [Array.length_toList]; rfl
    omega
  · simp at h
theorem i64_and1 (n : Nat) (h : n ≤ 4611686018427387903) : bits .and .i64 (n : Int) 1 = (n : Int) % 2 := bits_mask .i64 62 (by decide) wraps_i64 1 (by decide) _ (by omega) (by omega)
def signed (n : Nat) : Int := if btw (n : Int) 0 1099511627775 then (if n % 2 = 1 then -((n : Int) + 1) / 2 else (n : Int) / 2) else 0
theorem signed_bd (n : Nat) : -1099511627776 ≤ signed n ∧ signed n ≤ 1099511627776 := by
  unfold signed
  split
  · rename_i h
    have := btw_iff.1 h
    split <;> omega
  · omega
theorem tdiv_neg2 (n q : Nat) (hn : n ≤ 4398046511104) (h : n + 1 = 2 * q) : wrap64 (-((n : Int) + 1).tdiv 2) = -((n : Int) + 1) / 2 := by
  have : (n : Int) + 1 = 2 * (q : Int) := by exact_mod_cast h
  rw [this, Int.mul_tdiv_cancel_left _ (by decide), wrap64_small (by omega) (by omega)]
  omega
def packT (s : ByteArray) : ByteArray := encV s.size ++ s
def unpT (s : ByteArray) (a : Int) : ByteArray × Nat × Bool :=
  if (decV s a).2.2 && decide ((decV s a).1 ≤ s.size - a.toNat - (decV s a).2.1) then (s.extract (a.toNat + (decV s a).2.1) (a.toNat + (decV s a).2.1 + (decV s a).1), (decV s a).2.1 + (decV s a).1, true) else (⟨#[]⟩, 0, false)
def RetUnpT (p : ByteArray × Nat × Bool) (w : World) (e : Ending) (w' : World) : Prop := e = .returned (.tuple #[.string p.1, .int .i64 p.2.1, .bool p.2.2]) ∧ Gro w w'
theorem ret_unpT {p q : ByteArray × Nat × Bool} (h : p = q) {w w' : World} (hG : Gro w w') : RetUnpT p w (.returned (.tuple #[.string q.1, .int .i64 q.2.1, .bool q.2.2])) w' := by
  subst h
  exact ⟨rfl, hG⟩
set_option maxRecDepth 100000 in
theorem signed_i (n : Nat) (hn : n ≤ 4398046511104) (w : World) : Calls Try.prog 75 #[.int .i64 (n : Int)] w fun e w' => e = .returned (.int .i64 (signed n)) ∧ w = w' := by
  cases hb : btw (n : Int) 0 1099511627775
  · have HS := Lib.hid (show signed n = 0 from by simp [signed, hb])
    have HB := Lib.hid hb
    clear hb
    go_enter Try.func75, Try.ntmps75
    go_wp2_with (go_at_call 71; (with_reducible refine (in_i _ _ _ _).mono ?_); rw [HB.out]; rintro e w1 ⟨rfl, rfl⟩)
    go_ret
    exact ⟨ret_int HS.out.symm, rfl⟩
  · obtain ⟨hb1, hb2⟩ := btw_iff.1 hb
    have HB := Lib.hid hb
    by_cases h2 : n % 2 = 1
    · have HS := Lib.hid (show signed n = -((n : Int) + 1) / 2 from by simp [signed, hb, h2])
      obtain ⟨q, hq⟩ : ∃ q : Nat, n + 1 = 2 * q := ⟨(n + 1) / 2, by omega⟩
      clear hb
      have e1 : (n : Int) % 2 = 1 := by omega
      go_enter Try.func75, Try.ntmps75
      go_wp2_with (go_at_call 71; (with_reducible refine (in_i _ _ _ _).mono ?_); rw [HB.out]; rintro e w1 ⟨rfl, rfl⟩)
      go_ret
      exact ⟨ret_int (by rw [HS.out]; first | rfl | (exact tdiv_neg2 n q hn hq)), rfl⟩
    · have HS := Lib.hid (show signed n = (n : Int) / 2 from by simp [signed, hb, h2])
      clear hb
      have e1 : (n : Int) % 2 = 0 := by omega
      go_enter Try.func75, Try.ntmps75
      go_wp2_with (go_at_call 71; (with_reducible refine (in_i _ _ _ _).mono ?_); rw [HB.out]; rintro e w1 ⟨rfl, rfl⟩)
      go_ret
      exact ⟨ret_int (by rw [HS.out]), rfl⟩
set_option maxRecDepth 100000 in
theorem signed_s (n : Nat) (hn : n ≤ 4398046511104) (w : World) : Calls Try.prog 74 #[.int .i64 (n : Int)] w fun e w' => e = .returned (.int .i64 (signed n)) ∧ w = w' := by
  cases hb : btw (n : Int) 0 1099511627775
  · have HS := Lib.hid (show signed n = 0 from by simp [signed, hb])
    have HB := Lib.hid hb
    clear hb
    go_enter Try.func74, Try.ntmps74
    go_wp2_with (go_at_call 68; (with_reducible refine (in_s _ _ _ _).mono ?_); rw [HB.out]; rintro e w1 ⟨rfl, rfl⟩)
    go_ret
    exact ⟨ret_int HS.out.symm, rfl⟩
  · obtain ⟨hb1, hb2⟩ := btw_iff.1 hb
    have HB := Lib.hid hb
    by_cases h2 : n % 2 = 1
    · have HS := Lib.hid (show signed n = -((n : Int) + 1) / 2 from by simp [signed, hb, h2])
      obtain ⟨q, hq⟩ : ∃ q : Nat, n + 1 = 2 * q := ⟨(n + 1) / 2, by omega⟩
      clear hb
      have e1 : bits .and .i64 (n : Int) 1 = 1 := by rw [i64_and1 n (by omega)]; omega
      go_enter Try.func74, Try.ntmps74
      go_wp2_with (go_at_call 68; (with_reducible refine (in_s _ _ _ _).mono ?_); rw [HB.out]; rintro e w1 ⟨rfl, rfl⟩)
      go_ret
      exact ⟨ret_int (by rw [HS.out]; first | rfl | (exact tdiv_neg2 n q hn hq)), rfl⟩
    · have HS := Lib.hid (show signed n = (n : Int) / 2 from by simp [signed, hb, h2])
      clear hb
      have e1 : bits .and .i64 (n : Int) 1 = 0 := by rw [i64_and1 n (by omega)]; omega
      go_enter Try.func74, Try.ntmps74
      go_wp2_with (go_at_call 68; (with_reducible refine (in_s _ _ _ _).mono ?_); rw [HB.out]; rintro e w1 ⟨rfl, rfl⟩)
      go_ret
      exact ⟨ret_int (by rw [HS.out]), rfl⟩
set_option maxRecDepth 100000 in
theorem packT_i (s : ByteArray) (w : World) (hs : s.size ≤ 1099511627775) : Calls Try.prog 61 #[.string s] w fun e w' => e = .returned (.string (packT s)) ∧ Gro w w' := by
  have hz : (encV s.size).size + s.size ≤ 9223372036854775807 := by have := encV_size s.size; omega
  go_enter Try.func61, Try.ntmps61
  go_wp2_with (go_at_call 37; (with_reducible refine (encV_i _ _).mono ?_); rintro e w1 ⟨rfl, os, d, rfl⟩)
  go_ret
  exact ⟨rfl, (by repeat (first | with_reducible exact Gro.refl _ | with_reducible exact Gro.refl_drew _ _ _ | with_reducible exact Gro.refl_drewN _ _ _ _ | assumption | with_reducible apply Gro.more | with_reducible apply Gro.alloc | with_reducible apply Gro.drew | with_reducible apply Gro.drewN))⟩
set_option maxRecDepth 100000 in
theorem packT_s (s : ByteArray) (w : World) (hs : s.size ≤ 1099511627775) : Calls Try.prog 59 #[.string s] w fun e w' => e = .returned (.string (packT s)) ∧ Gro w w' := by
  have hz : (encV s.size).size + s.size ≤ 9223372036854775807 := by have := encV_size s.size; omega
  go_enter Try.func59, Try.ntmps59
  go_wp2_with (go_at_call 33; (with_reducible refine (encV_s _ _).mono ?_); rintro e w1 ⟨rfl, os, d, rfl⟩)
  go_ret
  exact ⟨rfl, (by repeat (first | with_reducible exact Gro.refl _ | with_reducible exact Gro.refl_drew _ _ _ | with_reducible exact Gro.refl_drewN _ _ _ _ | assumption | with_reducible apply Gro.more | with_reducible apply Gro.alloc | with_reducible apply Gro.drew | with_reducible apply Gro.drewN))⟩
set_option maxRecDepth 100000 in
theorem unpT_i (s : ByteArray) (a : Int) (w : World) (hs : s.size ≤ 1099511627776) (ha : I64 a) : Calls Try.prog 85 #[.string s, .int .i64 a] w (RetUnpT (unpT s a) w) := by
  obtain ⟨n, z, ok, hp⟩ : ∃ n z ok, decV s a = (n, z, ok) := ⟨_, _, _, rfl⟩
  have HP := Lib.hid hp
  cases ok
  · have HQ := Lib.hid (show unpT s a = (⟨#[]⟩, 0, false) from by simp [unpT, hp])
    clear hp
    go_enter Try.func85, Try.ntmps85
    go_wp2_with (go_at_call 42; (with_reducible refine (decV_i _ _ _ hs ha).mono ?_); rw [HP.out]; rintro e w1 ⟨rfl, os, d, rfl⟩)
    go_ret3
    exact ret_unpT HQ.out (by repeat (first | with_reducible exact Gro.refl _ | with_reducible exact Gro.refl_drew _ _ _ | with_reducible exact Gro.refl_drewN _ _ _ _ | assumption | with_reducible apply Gro.more | with_reducible apply Gro.alloc | with_reducible apply Gro.drew | with_reducible apply Gro.drewN))
  · obtain ⟨h1, h2, h3, h4, h5⟩ := decV_bd hp
    obtain ⟨a, rfl⟩ := Int.eq_ofNat_of_zero_le h1
    by_cases hf : n ≤ s.size - a - z
    · have HQ := Lib.hid (show unpT s a = (s.extract (a + z) (a + z + n), z + n, true) from by simp [unpT, hp, hf])
      clear hp
      have hf' : (n : Int) ≤ (s.size : Int) - a - z := by omega
      go_enter Try.func85, Try.ntmps85
      go_wp2_with (go_at_call 42; (with_reducible refine (decV_i _ _ _ hs ha).mono ?_); rw [HP.out]; rintro e w1 ⟨rfl, os, d, rfl⟩)
      go_ret3
      exact ret_unpT (q := (s.extract (a + z) (a + z + n), z + n, true)) HQ.out (by repeat (first | with_reducible exact Gro.refl _ | with_reducible exact Gro.refl_drew _ _ _ | with_reducible exact Gro.refl_drewN _ _ _ _ | assumption | with_reducible apply Gro.more | with_reducible apply Gro.alloc | with_reducible apply Gro.drew | with_reducible apply Gro.drewN))
    · have HQ := Lib.hid (show unpT s a = (⟨#[]⟩, 0, false) from by simp [unpT, hp, hf])
      clear hp
      have hf' : ¬ (n : Int) ≤ (s.size : Int) - a - z := by omega
      go_enter Try.func85, Try.ntmps85
      go_wp2_with (go_at_call 42; (with_reducible refine (decV_i _ _ _ hs ha).mono ?_); rw [HP.out]; rintro e w1 ⟨rfl, os, d, rfl⟩)
      go_ret3
      exact ret_unpT (q := (⟨#[]⟩, 0, false)) HQ.out (by repeat (first | with_reducible exact Gro.refl _ | with_reducible exact Gro.refl_drew _ _ _ | with_reducible exact Gro.refl_drewN _ _ _ _ | assumption | with_reducible apply Gro.more | with_reducible apply Gro.alloc | with_reducible apply Gro.drew | with_reducible apply Gro.drewN))
set_option maxRecDepth 100000 in
theorem unpT_s (s : ByteArray) (a : Int) (w : World) (hs : s.size ≤ 1099511627776) (ha : I64 a) : Calls Try.prog 63 #[.string s, .int .i64 a] w (RetUnpT (unpT s a) w) := by
  obtain ⟨n, z, ok, hp⟩ : ∃ n z ok, decV s a = (n, z, ok) := ⟨_, _, _, rfl⟩
  have HP := Lib.hid hp
  cases ok
  · have HQ := Lib.hid (show unpT s a = (⟨#[]⟩, 0, false) from by simp [unpT, hp])
    clear hp
    go_enter Try.func63, Try.ntmps63
    go_wp2_with (go_at_call 40; (with_reducible refine (decV_s _ _ _ hs ha).mono ?_); rw [HP.out]; rintro e w1 ⟨rfl, os, d, rfl⟩)
    go_ret3
    exact ret_unpT HQ.out (by repeat (first | with_reducible exact Gro.refl _ | with_reducible exact Gro.refl_drew _ _ _ | with_reducible exact Gro.refl_drewN _ _ _ _ | assumption | with_reducible apply Gro.more | with_reducible apply Gro.alloc | with_reducible apply Gro.drew | with_reducible apply Gro.drewN))
  · obtain ⟨h1, h2, h3, h4, h5⟩ := decV_bd hp
    obtain ⟨a, rfl⟩ := Int.eq_ofNat_of_zero_le h1
    by_cases hf : n ≤ s.size - a - z
    · have HQ := Lib.hid (show unpT s a = (s.extract (a + z) (a + z + n), z + n, true) from by simp [unpT, hp, hf])
      clear hp
      have hf' : (n : Int) ≤ (s.size : Int) - a - z := by omega
      go_enter Try.func63, Try.ntmps63
      go_wp2_with (go_at_call 40; (with_reducible refine (decV_s _ _ _ hs ha).mono ?_); rw [HP.out]; rintro e w1 ⟨rfl, os, d, rfl⟩)
      go_ret3
      exact ret_unpT (q := (s.extract (a + z) (a + z + n), z + n, true)) HQ.out (by repeat (first | with_reducible exact Gro.refl _ | with_reducible exact Gro.refl_drew _ _ _ | with_reducible exact Gro.refl_drewN _ _ _ _ | assumption | with_reducible apply Gro.more | with_reducible apply Gro.alloc | with_reducible apply Gro.drew | with_reducible apply Gro.drewN))
    · have HQ := Lib.hid (show unpT s a = (⟨#[]⟩, 0, false) from by simp [unpT, hp, hf])
      clear hp
      have hf' : ¬ (n : Int) ≤ (s.size : Int) - a - z := by omega
      go_enter Try.func63, Try.ntmps63
      go_wp2_with (go_at_call 40; (with_reducible refine (decV_s _ _ _ hs ha).mono ?_); rw [HP.out]; rintro e w1 ⟨rfl, os, d, rfl⟩)
      go_ret3
      exact ret_unpT (q := (⟨#[]⟩, 0, false)) HQ.out (by repeat (first | with_reducible exact Gro.refl _ | with_reducible exact Gro.refl_drew _ _ _ | with_reducible exact Gro.refl_drewN _ _ _ _ | assumption | with_reducible apply Gro.more | with_reducible apply Gro.alloc | with_reducible apply Gro.drew | with_reducible apply Gro.drewN))

theorem and_not_all {α : Type} {xs : List α} {f : α → Bool} {j : Nat} {x : α} (h : xs[j]? = some x) (hf : f x = false) : xs.all f = false := allT_false h hf
def sgOk (n : Int) : Bool := btw n (-549755813888) 549755813887
theorem signless_bd {n : Int} (h : sgOk n = true) : 0 ≤ signless n ∧ signless n ≤ 1099511627775 := by
  unfold sgOk at h
  obtain ⟨h1, h2⟩ := btw_iff.1 h
  unfold signless
  rw [h, if_pos rfl]
  split <;> omega
def packL (l : List Int) : List UInt8 := (l.map fun n => (encV (signless n)).data.toList).flatten
theorem packL_snoc {l : List Int} {j : Nat} {x : Int} (h : l[j]? = some x) : packL (l.take (j + 1)) = packL (l.take j) ++ (encV (signless x)).data.toList := by
  unfold packL
  rw [take_snoc h, List.map_append, List.flatten_append]
  simp
theorem packL_len (l : List Int) (j : Nat) : (packL (l.take j)).length ≤ 6 * j := by
  have h : ∀ l : List Int, (packL l).length ≤ 6 * l.length := by
    intro l
    induction l with
    | nil => simp [packL]
    | cons x xs ih =>
      have h1 := encV_size (signless x)
      have h2 : (encV (signless x)).data.toList.length = (encV (signless x)).size := by rw [Array.length_toList]; rfl
      have h3 : packL (x :: xs) = (encV (signless x)).data.toList ++ packL xs := rfl
      rw [h3, List.length_append, List.length_cons]
      omega
  have := h (l.take j)
  have h2 := List.length_take_le j l
  omega
def packI (l : List Int) : ByteArray := if l.all sgOk then ⟨((encV l.length).data.toList ++ packL l).toArray⟩ else ⟨#[]⟩
theorem encV_llen (n : Int) : (encV n).data.toList.length ≤ 6 := by rw [Array.length_toList]; exact encV_size n
theorem OwnB.since {lo lo' : Nat} {W : World} {A : Option Addr} {c : Nat} {xs : List UInt8} (h : OwnB lo W A c xs) (hl : lo' ≤ lo) : OwnB lo' W A c xs := by
  obtain ⟨g, h0, h1, h2⟩ := h
  exact ⟨g, h0, Nat.le_trans hl h1, h2⟩
theorem llen (s : ByteArray) : s.data.toList.length = s.size := by rw [Array.length_toList]; rfl
theorem str_of (s : ByteArray) : (⟨s.data.toList.toArray⟩ : ByteArray) = s := by simp
theorem size_of (l : List UInt8) : (⟨l.toArray⟩ : ByteArray).size = l.length := by
  show l.toArray.size = _
  simp
set_option maxRecDepth 100000 in
set_option maxHeartbeats 1000000 in
theorem packI_s {l : List Int} {w : World} {A : Option Addr} {c : Nat} (hx : (intT.sl 3).R w w.heap.size [.slice A l.length c] l) (hl : l.length ≤ 1099511627775) : Calls Try.prog 34 #[.slice A l.length c] w fun e w' => e = .returned (.string (packI l)) ∧ Gro w w' := by
  obtain ⟨_, _, hv, h2, h3⟩ := sl_at hx
  injection hv with hA _ hc
  subst hA hc
  go_enter Try.func34, Try.ntmps34
  go_wp2_with (first | (go_at_call 33; (with_reducible refine (encV_s _ _).mono ?_); rintro e w1 ⟨rfl, os1, d1, rfl⟩) | (go_at_call 70; (with_reducible refine (signless_s _ _).mono ?_); rintro e w1 ⟨rfl, rfl⟩))
  go_loopw [3, 4] (fun a i wr => ∃ (j : Nat) (acc : List UInt8), j ≤ l.length ∧ a = .string ⟨acc.toArray⟩ ∧ i = .int .i64 j ∧ acc.length ≤ 6 + 6 * j ∧ Hid (acc = (encV l.length).data.toList ++ packL (l.take j)) ∧ Hid ((l.take j).all sgOk = true) ∧ Hid (Gro w wr)) (fun _ i _ => l.length - (intOf i).toNat)
  case atStart => exact ⟨0, (encV l.length).data.toList, Nat.zero_le _, val_str (str_of _).symm, rfl, by have := encV_llen l.length; omega, Lib.hid (by simp [packL]), Lib.hid (by simp), Lib.hid (by repeat (first | with_reducible exact Gro.refl _ | with_reducible exact Gro.refl_drew _ _ _ | with_reducible exact Gro.refl_drewN _ _ _ _ | assumption | with_reducible apply Gro.more | with_reducible apply Gro.alloc | with_reducible apply Gro.drew | with_reducible apply Gro.drewN))⟩
  case round =>
    obtain ⟨j, acc, hj, rfl, rfl, hacc, HT, HO, hG⟩ := hrel
    obtain ⟨os, d, rfl⟩ := hG.out
    clear hG
    by_cases hlt : j < l.length
    · obtain ⟨g, off, x, rfl, hxk, hcx, bx1, bx2⟩ := ints_at hx hlt
      have hgb := World.block_lt_of_cell? _ _ hcx
      simp only at hgb
      have HX := Lib.hid hxk
      have HXL := Lib.hid hx
      clear hxk hx
      cases hb : sgOk x
      · have HF := Lib.hid (show packI l = ⟨#[]⟩ from by unfold packI; rw [and_not_all HX.out hb]; rfl)
        have b6 : decide (signless x < 0) = true := by rw [signless_neg]; unfold sgOk at hb; rw [hb]; rfl
        clear hb
        go_wp2_with (first | (go_at_call 33; (with_reducible refine (encV_s _ _).mono ?_); rintro e w1 ⟨rfl, os1, d1, rfl⟩) | (go_at_call 70; (with_reducible refine (signless_s _ _).mono ?_); rintro e w1 ⟨rfl, rfl⟩))
        go_ret
        exact ⟨ret_str HF.out.symm, (by repeat (first | with_reducible exact Gro.refl _ | with_reducible exact Gro.refl_drew _ _ _ | with_reducible exact Gro.refl_drewN _ _ _ _ | assumption | with_reducible apply Gro.more | with_reducible apply Gro.alloc | with_reducible apply Gro.drew | with_reducible apply Gro.drewN))⟩
      · have HB := Lib.hid hb
        have b6 : decide (signless x < 0) = false := by rw [signless_neg]; unfold sgOk at hb; rw [hb]; rfl
        have b7 := signless_bd hb
        clear hb
        have b8 := encV_size (signless x)
        have hz : (⟨acc.toArray⟩ : ByteArray).size + (encV (signless x)).size ≤ 9223372036854775807 := by rw [size_of]; omega
        go_wp2_with (first | (go_at_call 33; (with_reducible refine (encV_s _ _).mono ?_); rintro e w1 ⟨rfl, os1, d1, rfl⟩) | (go_at_call 70; (with_reducible refine (signless_s _ _).mono ?_); rintro e w1 ⟨rfl, rfl⟩))
        go_roundw
        case rel => exact ⟨j + 1, acc ++ (encV (signless x)).data.toList, by omega, val_str (by rw [← bytes_app, str_of]), by go_num, by { rw [List.length_append]; have := encV_llen (signless x); omega }, Lib.hid (by rw [packL_snoc HX.out, HT.out, List.append_assoc]), Lib.hid (allT_succ HX.out HO.out HB.out), Lib.hid (by repeat (first | with_reducible exact Gro.refl _ | with_reducible exact Gro.refl_drew _ _ _ | with_reducible exact Gro.refl_drewN _ _ _ _ | assumption | with_reducible apply Gro.more | with_reducible apply Gro.alloc | with_reducible apply Gro.drew | with_reducible apply Gro.drewN))⟩
        case measure => simp [intOf]; omega
    · have hje : j = l.length := by omega
      subst hje
      have HF := Lib.hid (show packI l = ⟨acc.toArray⟩ from by
        have h := HO.out
        have h2 := HT.out
        rw [List.take_length] at h h2
        unfold packI; rw [h, if_pos rfl, h2])
      go_wp2
      go_ret
      exact ⟨ret_str HF.out.symm, (by repeat (first | with_reducible exact Gro.refl _ | with_reducible exact Gro.refl_drew _ _ _ | with_reducible exact Gro.refl_drewN _ _ _ _ | assumption | with_reducible apply Gro.more | with_reducible apply Gro.alloc | with_reducible apply Gro.drew | with_reducible apply Gro.drewN))⟩
set_option maxRecDepth 100000 in
set_option maxHeartbeats 1000000 in
theorem packI_i {l : List Int} {w : World} {A : Option Addr} {c : Nat} (hx : (intT.sl 3).R w w.heap.size [.slice A l.length c] l) (hl : l.length ≤ 1099511627775) : Calls Try.prog 38 #[.slice A l.length c] w fun e w' => e = .returned (.string (packI l)) ∧ Gro w w' := by
  obtain ⟨_, _, hv, h2, h3⟩ := sl_at hx
  injection hv with hA _ hc
  subst hA hc
  go_enter Try.func38, Try.ntmps38
  go_wp2_with (go_at_call 37; (with_reducible refine (encV_i _ _).mono ?_); rintro e w1 ⟨rfl, os1, d1, rfl⟩; obtain ⟨cb, osb, db, kb, hB0, hcb⟩ := run_ownB (gro w os1 d1) (encV l.length))
  have hB1 := Lib.hid hB0
  have KB := Lib.hid kb
  have hcb2 : cb ≤ 9223372036854775807 := hcb (by have := encV_size l.length; omega)
  clear hB0 kb hcb
  go_loopw [3, 12] (fun b i wr => ∃ (j : Nat) (acc : List UInt8) (A2 : Option Addr) (c2 : Nat), j ≤ l.length ∧ b = .slice A2 acc.length c2 ∧ i = .int .i64 j ∧ c2 ≤ 9223372036854775807 ∧ acc.length ≤ 6 + 6 * j ∧ Hid (acc = (encV l.length).data.toList ++ packL (l.take j)) ∧ Hid ((l.take j).all sgOk = true) ∧ Hid (Gro w wr) ∧ Hid (OwnB w.heap.size wr A2 c2 acc)) (fun _ i _ => l.length - (intOf i).toNat)
  case atStart => exact ⟨0, (encV l.length).data.toList, _, cb, Nat.zero_le _, by rw [llen, gro_size], rfl, hcb2, by have := encV_llen l.length; omega, Lib.hid (by simp [packL]), Lib.hid (by simp), Lib.hid (by repeat (first | with_reducible exact Gro.refl _ | with_reducible exact Gro.refl_drew _ _ _ | with_reducible exact Gro.refl_drewN _ _ _ _ | assumption | with_reducible apply Gro.more | with_reducible apply Gro.alloc | with_reducible apply Gro.drew | with_reducible apply Gro.drewN)), Lib.hid (OwnB.since hB1.out (by simp))⟩
  case round =>
    clear hB1
    obtain ⟨j, acc, A2, c2, hj, rfl, rfl, hc2, hacc, HT, HO, hG, hB⟩ := hrel
    obtain ⟨os, d, rfl⟩ := hG.out
    clear hG
    by_cases hlt : j < l.length
    · obtain ⟨g, off, x, rfl, hxk, hcx, bx1, bx2⟩ := ints_at hx hlt
      have hgb := World.block_lt_of_cell? _ _ hcx
      simp only at hgb
      have HX := Lib.hid hxk
      have HXL := Lib.hid hx
      clear hxk hx
      cases hb : sgOk x
      · have HF := Lib.hid (show packI l = ⟨#[]⟩ from by unfold packI; rw [and_not_all HX.out hb]; rfl)
        have b6 : decide (signless x < 0) = true := by rw [signless_neg]; unfold sgOk at hb; rw [hb]; rfl
        clear hb
        go_wp2_with (first | (at_builtin; go_must (refine wpList_append_str rfl (.tmp 19) (.tmp 22) (W0 := w) rfl (hB.out.gro (by repeat (first | with_reducible exact Gro.refl _ | with_reducible exact Gro.refl_drew _ _ _ | with_reducible exact Gro.refl_drewN _ _ _ _ | assumption | with_reducible apply Gro.more | with_reducible apply Gro.alloc | with_reducible apply Gro.drew | with_reducible apply Gro.drewN))) (by repeat (first | with_reducible exact Gro.refl _ | with_reducible exact Gro.refl_drew _ _ _ | with_reducible exact Gro.refl_drewN _ _ _ _ | assumption | with_reducible apply Gro.more | with_reducible apply Gro.alloc | with_reducible apply Gro.drew | with_reducible apply Gro.drewN)) rfl rfl rfl (by omega) (by omega) ?_); intro A2 c2 os2 d2 hB2 hc2) | (go_at_call 37; (with_reducible refine (encV_i _ _).mono ?_); rintro e w1 ⟨rfl, os1, d1, rfl⟩) | (go_at_call 73; (with_reducible refine (signless_i _ _).mono ?_); rintro e w1 ⟨rfl, rfl⟩))
        go_ret
        exact ⟨ret_str HF.out.symm, (by repeat (first | with_reducible exact Gro.refl _ | with_reducible exact Gro.refl_drew _ _ _ | with_reducible exact Gro.refl_drewN _ _ _ _ | assumption | with_reducible apply Gro.more | with_reducible apply Gro.alloc | with_reducible apply Gro.drew | with_reducible apply Gro.drewN))⟩
      · have HB := Lib.hid hb
        have b6 : decide (signless x < 0) = false := by rw [signless_neg]; unfold sgOk at hb; rw [hb]; rfl
        have b7 := signless_bd hb
        clear hb
        have b8 := encV_size (signless x)
        go_wp2_with (first | (at_builtin; go_must (refine wpList_append_str rfl (.tmp 19) (.tmp 22) (W0 := w) rfl (hB.out.gro (by repeat (first | with_reducible exact Gro.refl _ | with_reducible exact Gro.refl_drew _ _ _ | with_reducible exact Gro.refl_drewN _ _ _ _ | assumption | with_reducible apply Gro.more | with_reducible apply Gro.alloc | with_reducible apply Gro.drew | with_reducible apply Gro.drewN))) (by repeat (first | with_reducible exact Gro.refl _ | with_reducible exact Gro.refl_drew _ _ _ | with_reducible exact Gro.refl_drewN _ _ _ _ | assumption | with_reducible apply Gro.more | with_reducible apply Gro.alloc | with_reducible apply Gro.drew | with_reducible apply Gro.drewN)) rfl rfl rfl (by omega) (by omega) ?_); intro A2 c2 os2 d2 hB2 hc2) | (go_at_call 37; (with_reducible refine (encV_i _ _).mono ?_); rintro e w1 ⟨rfl, os1, d1, rfl⟩) | (go_at_call 73; (with_reducible refine (signless_i _ _).mono ?_); rintro e w1 ⟨rfl, rfl⟩))
        go_roundw
        case rel => exact ⟨j + 1, acc ++ (encV (signless x)).data.toList, A2, c2, by omega, by rw [List.length_append, Array.length_toList]; rfl, by go_num, hc2, by { rw [List.length_append]; have := encV_llen (signless x); omega }, Lib.hid (by rw [packL_snoc HX.out, HT.out, List.append_assoc]), Lib.hid (allT_succ HX.out HO.out HB.out), Lib.hid (by repeat (first | with_reducible exact Gro.refl _ | with_reducible exact Gro.refl_drew _ _ _ | with_reducible exact Gro.refl_drewN _ _ _ _ | assumption | with_reducible apply Gro.more | with_reducible apply Gro.alloc | with_reducible apply Gro.drew | with_reducible apply Gro.drewN)), Lib.hid hB2⟩
        case measure => simp [intOf]; omega
    · have hje : j = l.length := by omega
      subst hje
      have HF := Lib.hid (show packI l = ⟨acc.toArray⟩ from by
        have h := HO.out
        have h2 := HT.out
        rw [List.take_length] at h h2
        unfold packI; rw [h, if_pos rfl, h2])
      have kc := conv_bytes (hB.out.read (e := 5) hc2)
      go_wp2
      go_ret
      exact ⟨ret_str HF.out.symm, (by repeat (first | with_reducible exact Gro.refl _ | with_reducible exact Gro.refl_drew _ _ _ | with_reducible exact Gro.refl_drewN _ _ _ _ | assumption | with_reducible apply Gro.more | with_reducible apply Gro.alloc | with_reducible apply Gro.drew | with_reducible apply Gro.drewN))⟩

def unpGo (s : ByteArray) (a : Int) : Nat → Nat → List Int → Option (List Int × Nat)
  | 0, z, acc => some (acc, z)
  | c + 1, z, acc => if (decV s (a + z)).2.2 then unpGo s a c (z + (decV s (a + z)).2.1) (acc ++ [signed (decV s (a + z)).1]) else none
def unpR : Option (List Int × Nat) → List Int × Nat × Bool
  | some (l, n) => (l, n, true)
  | none => ([], 0, false)
def unpI (s : ByteArray) (a : Int) : List Int × Nat × Bool := if (decV s a).2.2 then unpR (unpGo s a (decV s a).1 (decV s a).2.1 []) else ([], 0, false)
theorem unpGo_fail {s : ByteArray} {a : Int} {f q : Nat} {acc : List Int} {m t : Nat} (h : decV s (a + q) = (m, t, false)) : unpGo s a (f + 1) q acc = none := by
  simp [unpGo, h]
theorem unpGo_ok {s : ByteArray} {a : Int} {f q : Nat} {acc : List Int} {m t : Nat} (h : decV s (a + q) = (m, t, true)) : unpGo s a (f + 1) q acc = unpGo s a f (q + t) (acc ++ [signed m]) := by
  simp [unpGo, h]
theorem unpGo_none {s : ByteArray} {a : Nat} : ∀ {c z : Nat} {acc : List Int}, a + z ≤ s.size → s.size < a + z + c → unpGo s a c z acc = none := by
  intro c
  induction c with
  | zero => intro z acc h1 h2; omega
  | succ c ih =>
    intro z acc h1 h2
    obtain ⟨m, t, ok, hm⟩ : ∃ m t ok, decV s ((a : Int) + z) = (m, t, ok) := ⟨_, _, _, rfl⟩
    cases ok
    · exact unpGo_fail hm
    · have := decV_bd hm
      rw [unpGo_ok hm]
      exact ih (by omega) (by omega)
theorem decGo_zero {L : List UInt8} {a : Nat} : ∀ (f k n : Nat) (m z : Nat), decGo L a f k n = (m, z, false) → m = 0 ∧ z = 0 := by
  intro f
  induction f with
  | zero => intro k n m z h; simp [decGo] at h; omega
  | succ f ih =>
    intro k n m z h
    cases hx : L[a + k]? with
    | none => rw [decGo_none hx] at h; simp at h; omega
    | some b =>
      rw [decGo_some hx] at h
      split at h
      · split at h
        · simp at h
        · simp at h; omega
      · exact ih _ _ _ _ h
theorem decV_zero {s : ByteArray} {a : Int} {m z : Nat} (h : decV s a = (m, z, false)) : m = 0 ∧ z = 0 := by
  unfold decV at h
  split at h
  · exact decGo_zero _ _ _ _ _ h
  · simp at h; omega
def RetUnp (p : List Int × Nat × Bool) (w : World) (e : Ending) (w' : World) : Prop := ∃ A c, e = .returned (.tuple #[.slice A p.1.length c, .int .i64 p.2.1, .bool p.2.2]) ∧ Fresh (intT.sl 3) w w' [.slice A p.1.length c] p.1 ∧ Gro w w'
theorem ret_unp {p q : List Int × Nat × Bool} (h : p = q) {w w' : World} {A : Option Addr} {c : Nat} (hF : Fresh (intT.sl 3) w w' [.slice A q.1.length c] q.1) (hG : Gro w w') : RetUnp p w (.returned (.tuple #[.slice A q.1.length c, .int .i64 q.2.1, .bool q.2.2])) w' := by
  subst h
  exact ⟨A, c, rfl, hF, hG⟩
set_option maxRecDepth 100000 in
set_option maxHeartbeats 1000000 in
theorem unpI_i (s : ByteArray) (a : Int) (w : World) (hs : s.size ≤ 1099511627776) (ha : I64 a) : Calls Try.prog 43 #[.string s, .int .i64 a] w (RetUnp (unpI s a) w) := by
  obtain ⟨n, z, ok, hp⟩ : ∃ n z ok, decV s a = (n, z, ok) := ⟨_, _, _, rfl⟩
  have HP := Lib.hid hp
  cases ok
  · have HQ := Lib.hid (show unpI s a = ([], 0, false) from by simp [unpI, hp])
    obtain ⟨rfl, rfl⟩ := decV_zero hp
    clear hp
    go_enter Try.func43, Try.ntmps43
    go_wp2_with (go_at_call 42; (with_reducible refine (decV_i _ _ _ hs ha).mono ?_); rw [HP.out]; rintro e w1 ⟨rfl, os1, d1, rfl⟩)
    go_ret3
    exact ret_unp HQ.out (fresh_nil _ _) (by repeat (first | with_reducible exact Gro.refl _ | with_reducible exact Gro.refl_drew _ _ _ | with_reducible exact Gro.refl_drewN _ _ _ _ | assumption | with_reducible apply Gro.more | with_reducible apply Gro.alloc | with_reducible apply Gro.drew | with_reducible apply Gro.drewN))
  · obtain ⟨h1, h2, h3, h4, h5⟩ := decV_bd hp
    obtain ⟨a, rfl⟩ := Int.eq_ofNat_of_zero_le h1
    have HS := Lib.hid (show unpI s a = unpR (unpGo s a n z []) from by simp [unpI, hp])
    clear hp
    by_cases hbig : s.size < n
    · have HQ := Lib.hid (show unpI s a = ([], 0, false) from by rw [HS.out, unpGo_none (by omega) (by omega)]; rfl)
      go_enter Try.func43, Try.ntmps43
      go_wp2_with (go_at_call 42; (with_reducible refine (decV_i _ _ _ hs ha).mono ?_); rw [HP.out]; rintro e w1 ⟨rfl, os1, d1, rfl⟩)
      go_ret3
      exact ret_unp HQ.out (fresh_nil _ _) (by repeat (first | with_reducible exact Gro.refl _ | with_reducible exact Gro.refl_drew _ _ _ | with_reducible exact Gro.refl_drewN _ _ _ _ | assumption | with_reducible apply Gro.more | with_reducible apply Gro.alloc | with_reducible apply Gro.drew | with_reducible apply Gro.drewN))
    · go_enter Try.func43, Try.ntmps43
      go_wp2_with (go_at_call 42; (with_reducible refine (decV_i _ _ _ hs ha).mono ?_); rw [HP.out]; rintro e w1 ⟨rfl, os1, d1, rfl⟩)
      go_loopw [8, 10, 11] (fun y x b wr => ∃ (j q : Nat) (acc : List Int) (A : Option Addr) (c : Nat), b = .int .i64 j ∧ x = .slice A acc.length c ∧ y = .int .i64 q ∧ j ≤ n ∧ acc.length + 1 ≤ q ∧ a + q ≤ s.size ∧ Hid (unpGo s a (n - j) q acc = unpGo s a n z []) ∧ Hid (Gro w wr) ∧ Hid (Fresh (intT.sl 3) w wr [.slice A acc.length c] acc)) (fun _ _ b _ => n - (intOf b).toNat)
      case atStart => exact ⟨0, z, [], _, 0, rfl, rfl, rfl, by omega, by simpa using h2, by omega, Lib.hid rfl, Lib.hid (by repeat (first | with_reducible exact Gro.refl _ | with_reducible exact Gro.refl_drew _ _ _ | with_reducible exact Gro.refl_drewN _ _ _ _ | assumption | with_reducible apply Gro.more | with_reducible apply Gro.alloc | with_reducible apply Gro.drew | with_reducible apply Gro.drewN)), Lib.hid (fresh_empty (by repeat (first | with_reducible exact Gro.refl _ | with_reducible exact Gro.refl_drew _ _ _ | with_reducible exact Gro.refl_drewN _ _ _ _ | assumption | with_reducible apply Gro.more | with_reducible apply Gro.alloc | with_reducible apply Gro.drew | with_reducible apply Gro.drewN)) (by simp))⟩
      case round =>
        obtain ⟨j, q, acc, A, c, rfl, rfl, rfl, hj, hq, haq, HT, hG, hF⟩ := hrel
        obtain ⟨os, d, rfl⟩ := hG.out
        clear hG
        by_cases hlt : j < n
        · obtain ⟨f, hf⟩ : ∃ f, n - j = f + 1 := ⟨n - j - 1, by omega⟩
          have HFu := Lib.hid hf
          have HF2 := Lib.hid (show n - (j + 1) = f by omega)
          clear hf
          obtain ⟨m, t, ok, hm⟩ : ∃ m t ok, decV s ((a : Int) + q) = (m, t, ok) := ⟨_, _, _, rfl⟩
          have HM := Lib.hid hm
          have hq64 : I64 ((a : Int) + q) := ⟨by omega, by omega⟩
          cases ok
          · have HQ := Lib.hid (show unpI s a = ([], 0, false) from by rw [HS.out, ← HT.out, HFu.out, unpGo_fail hm]; rfl)
            clear hm
            go_wp2_with (first | (at_builtin; go_must (refine wpList_append_fone (W0 := w) (L := acc.length + 1) rfl (.tmp 47) (.tmp 50) elInt flat_int (hF.out.gro (by repeat (first | with_reducible exact Gro.refl _ | with_reducible exact Gro.refl_drew _ _ _ | with_reducible exact Gro.refl_drewN _ _ _ _ | assumption | with_reducible apply Gro.more | with_reducible apply Gro.alloc | with_reducible apply Gro.drew | with_reducible apply Gro.drewN))).fre (by repeat (first | with_reducible exact Gro.refl _ | with_reducible exact Gro.refl_drew _ _ _ | with_reducible exact Gro.refl_drewN _ _ _ _ | assumption | with_reducible apply Gro.more | with_reducible apply Gro.alloc | with_reducible apply Gro.drew | with_reducible apply Gro.drewN)) (W1 := w) (B := 0) (ec := [.int .i64 (signed m)]) (y := signed m) ⟨rfl, by have := signed_bd m; omega, by have := signed_bd m; omega⟩ rfl rfl rfl (by intro j u hu; simpa [go_sem] using hu) rfl (by omega) (by omega) ?_); intro A2 c2 os2 d2 hF2) | (go_at_call 42; (with_reducible refine (decV_i _ _ _ hs hq64).mono ?_); rw [HM.out]; rintro e w1 ⟨rfl, os1, d1, rfl⟩) | (go_at_call 75; (with_reducible refine (signed_i m (by omega) _).mono ?_); rintro e w1 ⟨rfl, rfl⟩))
            go_ret3
            exact ret_unp HQ.out (fresh_nil _ _) (by repeat (first | with_reducible exact Gro.refl _ | with_reducible exact Gro.refl_drew _ _ _ | with_reducible exact Gro.refl_drewN _ _ _ _ | assumption | with_reducible apply Gro.more | with_reducible apply Gro.alloc | with_reducible apply Gro.drew | with_reducible apply Gro.drewN))
          · obtain ⟨g1, g2, g3, g4, g5⟩ := decV_bd hm
            have HN := Lib.hid (unpGo_ok (f := f) (acc := acc) hm)
            clear hm
            go_wp2_with (first | (at_builtin; go_must (refine wpList_append_fone (W0 := w) (L := acc.length + 1) rfl (.tmp 47) (.tmp 50) elInt flat_int (hF.out.gro (by repeat (first | with_reducible exact Gro.refl _ | with_reducible exact Gro.refl_drew _ _ _ | with_reducible exact Gro.refl_drewN _ _ _ _ | assumption | with_reducible apply Gro.more | with_reducible apply Gro.alloc | with_reducible apply Gro.drew | with_reducible apply Gro.drewN))).fre (by repeat (first | with_reducible exact Gro.refl _ | with_reducible exact Gro.refl_drew _ _ _ | with_reducible exact Gro.refl_drewN _ _ _ _ | assumption | with_reducible apply Gro.more | with_reducible apply Gro.alloc | with_reducible apply Gro.drew | with_reducible apply Gro.drewN)) (W1 := w) (B := 0) (ec := [.int .i64 (signed m)]) (y := signed m) ⟨rfl, by have := signed_bd m; omega, by have := signed_bd m; omega⟩ rfl rfl rfl (by intro j u hu; simpa [go_sem] using hu) rfl (by omega) (by omega) ?_); intro A2 c2 os2 d2 hF2) | (go_at_call 42; (with_reducible refine (decV_i _ _ _ hs hq64).mono ?_); rw [HM.out]; rintro e w1 ⟨rfl, os1, d1, rfl⟩) | (go_at_call 75; (with_reducible refine (signed_i m (by omega) _).mono ?_); rintro e w1 ⟨rfl, rfl⟩))
            go_roundw
            case rel => exact ⟨j + 1, q + t, acc ++ [signed m], A2, c2, by go_num, by simp, by go_num, by omega, by simp; omega, by omega, Lib.hid (by rw [← HT.out, HFu.out, HF2.out, HN.out]), Lib.hid (by repeat (first | with_reducible exact Gro.refl _ | with_reducible exact Gro.refl_drew _ _ _ | with_reducible exact Gro.refl_drewN _ _ _ _ | assumption | with_reducible apply Gro.more | with_reducible apply Gro.alloc | with_reducible apply Gro.drew | with_reducible apply Gro.drewN)), Lib.hid (by simpa using hF2)⟩
            case measure => simp [intOf]; omega
        · have hje : j = n := by omega
          subst hje
          have HQ := Lib.hid (show unpI s a = (acc, q, true) from by rw [HS.out, ← HT.out, Nat.sub_self]; rfl)
          go_wp2
          go_ret3
          exact ret_unp (q := (acc, q, true)) HQ.out hF.out (by repeat (first | with_reducible exact Gro.refl _ | with_reducible exact Gro.refl_drew _ _ _ | with_reducible exact Gro.refl_drewN _ _ _ _ | assumption | with_reducible apply Gro.more | with_reducible apply Gro.alloc | with_reducible apply Gro.drew | with_reducible apply Gro.drewN))
set_option maxRecDepth 100000 in
set_option maxHeartbeats 1000000 in
theorem unpI_s (s : ByteArray) (a : Int) (w : World) (hs : s.size ≤ 1099511627776) (ha : I64 a) : Calls Try.prog 41 #[.string s, .int .i64 a] w (RetUnp (unpI s a) w) := by
  obtain ⟨n, z, ok, hp⟩ : ∃ n z ok, decV s a = (n, z, ok) := ⟨_, _, _, rfl⟩
  have HP := Lib.hid hp
  cases ok
  · have HQ := Lib.hid (show unpI s a = ([], 0, false) from by simp [unpI, hp])
    obtain ⟨rfl, rfl⟩ := decV_zero hp
    clear hp
    go_enter Try.func41, Try.ntmps41
    go_wp2_with (go_at_call 40; (with_reducible refine (decV_s _ _ _ hs ha).mono ?_); rw [HP.out]; rintro e w1 ⟨rfl, os1, d1, rfl⟩)
    go_loop [9, 11] (fun x y => x = .bool false ∧ y = .int .i64 0) (fun _ _ => 0)
    case atStart => exact ⟨rfl, rfl⟩
    case round =>
      obtain ⟨rfl, rfl⟩ := hrel
      go_wp2
      go_ret3
      exact ret_unp HQ.out (fresh_empty2 (W0 := w) (by repeat (first | with_reducible exact Gro.refl _ | with_reducible exact Gro.refl_drew _ _ _ | with_reducible exact Gro.refl_drewN _ _ _ _ | assumption | with_reducible apply Gro.more | with_reducible apply Gro.alloc | with_reducible apply Gro.drew | with_reducible apply Gro.drewN)) (by repeat (first | with_reducible exact Gro.refl _ | with_reducible exact Gro.refl_drew _ _ _ | with_reducible exact Gro.refl_drewN _ _ _ _ | assumption | with_reducible apply Gro.more | with_reducible apply Gro.alloc | with_reducible apply Gro.drew | with_reducible apply Gro.drewN)) (by simp)) (by repeat (first | with_reducible exact Gro.refl _ | with_reducible exact Gro.refl_drew _ _ _ | with_reducible exact Gro.refl_drewN _ _ _ _ | assumption | with_reducible apply Gro.more | with_reducible apply Gro.alloc | with_reducible apply Gro.drew | with_reducible apply Gro.drewN))
  · obtain ⟨h1, h2, h3, h4, h5⟩ := decV_bd hp
    obtain ⟨a, rfl⟩ := Int.eq_ofNat_of_zero_le h1
    have HS := Lib.hid (show unpI s a = unpR (unpGo s a n z []) from by simp [unpI, hp])
    clear hp
    go_enter Try.func41, Try.ntmps41
    go_wp2_with (go_at_call 40; (with_reducible refine (decV_s _ _ _ hs ha).mono ?_); rw [HP.out]; rintro e w1 ⟨rfl, os1, d1, rfl⟩)
    go_loopw [8, 9, 10, 11] (fun y k x b wr => ∃ (j q : Nat) (acc : List Int) (A : Option Addr) (c : Nat) (ok : Bool), k = .bool ok ∧ b = .int .i64 j ∧ x = .slice A acc.length c ∧ y = .int .i64 q ∧ j ≤ n ∧ acc.length ≤ q + 1 ∧ a + q ≤ s.size ∧ Hid (ok = false → unpI s a = ([], 0, false)) ∧ Hid (ok = true → acc.length ≤ q) ∧ Hid (ok = true → unpGo s a (n - j) q acc = unpGo s a n z []) ∧ Hid (Gro w wr) ∧ Hid (Fresh (intT.sl 3) w wr [.slice A acc.length c] acc)) (fun _ _ _ b _ => n - (intOf b).toNat)
    case atStart => exact ⟨0, z, [], _, 0, true, rfl, rfl, rfl, rfl, by omega, by simp, by omega, Lib.hid (fun h => by cases h), Lib.hid (fun _ => by simp), Lib.hid (fun _ => rfl), Lib.hid (by repeat (first | with_reducible exact Gro.refl _ | with_reducible exact Gro.refl_drew _ _ _ | with_reducible exact Gro.refl_drewN _ _ _ _ | assumption | with_reducible apply Gro.more | with_reducible apply Gro.alloc | with_reducible apply Gro.drew | with_reducible apply Gro.drewN)), Lib.hid (fresh_empty (by repeat (first | with_reducible exact Gro.refl _ | with_reducible exact Gro.refl_drew _ _ _ | with_reducible exact Gro.refl_drewN _ _ _ _ | assumption | with_reducible apply Gro.more | with_reducible apply Gro.alloc | with_reducible apply Gro.drew | with_reducible apply Gro.drewN)) (by simp))⟩
    case round =>
      obtain ⟨j, q, acc, A, c, ok, rfl, rfl, rfl, rfl, hj, hq, haq, HT0, HL, HT1, hG, hF⟩ := hrel
      obtain ⟨os, d, rfl⟩ := hG.out
      clear hG
      cases ok
      · have HQ := Lib.hid (HT0.out rfl)
        clear HT0 HT1 HL
        by_cases hlt : j < n
        all_goals
          go_wp2
          go_ret3
          exact ret_unp HQ.out (fresh_empty2 (W0 := w) (by repeat (first | with_reducible exact Gro.refl _ | with_reducible exact Gro.refl_drew _ _ _ | with_reducible exact Gro.refl_drewN _ _ _ _ | assumption | with_reducible apply Gro.more | with_reducible apply Gro.alloc | with_reducible apply Gro.drew | with_reducible apply Gro.drewN)) (by repeat (first | with_reducible exact Gro.refl _ | with_reducible exact Gro.refl_drew _ _ _ | with_reducible exact Gro.refl_drewN _ _ _ _ | assumption | with_reducible apply Gro.more | with_reducible apply Gro.alloc | with_reducible apply Gro.drew | with_reducible apply Gro.drewN)) (by simp)) (by repeat (first | with_reducible exact Gro.refl _ | with_reducible exact Gro.refl_drew _ _ _ | with_reducible exact Gro.refl_drewN _ _ _ _ | assumption | with_reducible apply Gro.more | with_reducible apply Gro.alloc | with_reducible apply Gro.drew | with_reducible apply Gro.drewN))
      · have HT := Lib.hid (HT1.out rfl)
        have hlq := HL.out rfl
        clear HT0 HT1 HL
        by_cases hlt : j < n
        · obtain ⟨f, hf⟩ : ∃ f, n - j = f + 1 := ⟨n - j - 1, by omega⟩
          have HFu := Lib.hid hf
          have HF2 := Lib.hid (show n - (j + 1) = f by omega)
          clear hf
          obtain ⟨m, t, ok, hm⟩ : ∃ m t ok, decV s ((a : Int) + q) = (m, t, ok) := ⟨_, _, _, rfl⟩
          have HM := Lib.hid hm
          have hq64 : I64 ((a : Int) + q) := ⟨by omega, by omega⟩
          cases ok
          · have HQ := Lib.hid (show unpI s a = ([], 0, false) from by rw [HS.out, ← HT.out, HFu.out, unpGo_fail hm]; rfl)
            have hm0 : m ≤ 0 := by have := (decV_zero hm).1; omega
            have ht0 : t ≤ 0 := by have := (decV_zero hm).2; omega
            clear hm
            go_wp2_with (first | (at_builtin; go_must (refine wpList_append_fone (W0 := w) (L := acc.length + 1) rfl (.tmp 44) (.tmp 47) elInt flat_int (hF.out.gro (by repeat (first | with_reducible exact Gro.refl _ | with_reducible exact Gro.refl_drew _ _ _ | with_reducible exact Gro.refl_drewN _ _ _ _ | assumption | with_reducible apply Gro.more | with_reducible apply Gro.alloc | with_reducible apply Gro.drew | with_reducible apply Gro.drewN))).fre (by repeat (first | with_reducible exact Gro.refl _ | with_reducible exact Gro.refl_drew _ _ _ | with_reducible exact Gro.refl_drewN _ _ _ _ | assumption | with_reducible apply Gro.more | with_reducible apply Gro.alloc | with_reducible apply Gro.drew | with_reducible apply Gro.drewN)) (W1 := w) (B := 0) (ec := [.int .i64 (signed m)]) (y := signed m) ⟨rfl, by have := signed_bd m; omega, by have := signed_bd m; omega⟩ rfl rfl rfl (by intro j u hu; simpa [go_sem] using hu) rfl (by omega) (by omega) ?_); intro A2 c2 os2 d2 hF2) | (go_at_call 40; (with_reducible refine (decV_s _ _ _ hs hq64).mono ?_); rw [HM.out]; rintro e w1 ⟨rfl, os1, d1, rfl⟩) | (go_at_call 74; (with_reducible refine (signed_s m (by omega) _).mono ?_); rintro e w1 ⟨rfl, rfl⟩))
            go_roundw
            case rel => exact ⟨j + 1, q + t, acc ++ [signed m], A2, c2, false, rfl, by go_num, by simp, by go_num, by omega, by simp; omega, by omega, Lib.hid (fun _ => HQ.out), Lib.hid (fun h => by cases h), Lib.hid (fun h => by cases h), Lib.hid (by repeat (first | with_reducible exact Gro.refl _ | with_reducible exact Gro.refl_drew _ _ _ | with_reducible exact Gro.refl_drewN _ _ _ _ | assumption | with_reducible apply Gro.more | with_reducible apply Gro.alloc | with_reducible apply Gro.drew | with_reducible apply Gro.drewN)), Lib.hid (by simpa using hF2)⟩
            case measure => simp [intOf]; omega
          · obtain ⟨g1, g2, g3, g4, g5⟩ := decV_bd hm
            have HN := Lib.hid (unpGo_ok (f := f) (acc := acc) hm)
            clear hm
            go_wp2_with (first | (at_builtin; go_must (refine wpList_append_fone (W0 := w) (L := acc.length + 1) rfl (.tmp 44) (.tmp 47) elInt flat_int (hF.out.gro (by repeat (first | with_reducible exact Gro.refl _ | with_reducible exact Gro.refl_drew _ _ _ | with_reducible exact Gro.refl_drewN _ _ _ _ | assumption | with_reducible apply Gro.more | with_reducible apply Gro.alloc | with_reducible apply Gro.drew | with_reducible apply Gro.drewN))).fre (by repeat (first | with_reducible exact Gro.refl _ | with_reducible exact Gro.refl_drew _ _ _ | with_reducible exact Gro.refl_drewN _ _ _ _ | assumption | with_reducible apply Gro.more | with_reducible apply Gro.alloc | with_reducible apply Gro.drew | with_reducible apply Gro.drewN)) (W1 := w) (B := 0) (ec := [.int .i64 (signed m)]) (y := signed m) ⟨rfl, by have := signed_bd m; omega, by have := signed_bd m; omega⟩ rfl rfl rfl (by intro j u hu; simpa [go_sem] using hu) rfl (by omega) (by omega) ?_); intro A2 c2 os2 d2 hF2) | (go_at_call 40; (with_reducible refine (decV_s _ _ _ hs hq64).mono ?_); rw [HM.out]; rintro e w1 ⟨rfl, os1, d1, rfl⟩) | (go_at_call 74; (with_reducible refine (signed_s m (by omega) _).mono ?_); rintro e w1 ⟨rfl, rfl⟩))
            go_roundw
            case rel => exact ⟨j + 1, q + t, acc ++ [signed m], A2, c2, true, rfl, by go_num, by simp, by go_num, by omega, by simp; omega, by omega, Lib.hid (fun h => by cases h), Lib.hid (fun _ => by simp; omega), Lib.hid (fun _ => by rw [← HT.out, HFu.out, HF2.out, HN.out]), Lib.hid (by repeat (first | with_reducible exact Gro.refl _ | with_reducible exact Gro.refl_drew _ _ _ | with_reducible exact Gro.refl_drewN _ _ _ _ | assumption | with_reducible apply Gro.more | with_reducible apply Gro.alloc | with_reducible apply Gro.drew | with_reducible apply Gro.drewN)), Lib.hid (by simpa using hF2)⟩
            case measure => simp [intOf]; omega
        · have hje : j = n := by omega
          subst hje
          have HQ := Lib.hid (show unpI s a = (acc, q, true) from by rw [HS.out, ← HT.out, Nat.sub_self]; rfl)
          go_wp2
          go_ret3
          exact ret_unp (q := (acc, q, true)) HQ.out hF.out (by repeat (first | with_reducible exact Gro.refl _ | with_reducible exact Gro.refl_drew _ _ _ | with_reducible exact Gro.refl_drewN _ _ _ _ | assumption | with_reducible apply Gro.more | with_reducible apply Gro.alloc | with_reducible apply Gro.drew | with_reducible apply Gro.drewN))
end Go.Proofs.Ytemeenondbdioaa
