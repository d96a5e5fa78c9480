/-
  VARINT, PART 3: Signed, PackText, UnpackText, PackInts, UnpackInts.
-/
import Derived.Test.YtcomafmiclkmhaaGreatDoorVarint2
import Derived.Test.YtcomafmiclkmhaaGreatDoorSample
import Derived.Test.YtcomafmiclkmhaaGreatDoorBytes2
import Derived.Test.YtcomafmiclkmhaaGreatDoorProfile2
import Derived.Test.YtcomafmiclkmhaaGreatDoorLists
set_option linter.unusedVariables false
set_option linter.unusedSimpArgs false
namespace Go.Proofs.YtcomafmiclkmhaaGreatDoor
open Go.RowKit
theorem varN_len6 (k : Nat) : ∀ n, n < 128 ^ (k + 1) → (varN n).length ≤ k + 1 := by
  induction k with
  | zero => intro n h; rw [varN_lo (by simpa using h)]; simp
  | succ k ih =>
    intro n h
    by_cases hn : n < 128
    · rw [varN_lo hn]; simp
    · rw [varN_hi (by omega), List.length_cons]
      have := ih (n / 128) (by rw [Nat.pow_succ] at h; omega)
      omega
theorem varN_pos (n : Nat) : 1 ≤ (varN n).length := by
  by_cases hn : n < 128
  · rw [varN_lo hn]; simp
  · rw [varN_hi (by omega)]; simp
theorem encV_list {n : Nat} (h : n ≤ 1099511627775) : (encV n).data.toList = varN n := by
  unfold encV
  rw [if_pos (btw_mk (by omega) (by omega))]
  rfl
theorem encV_size (n : Int) : (encV n).size ≤ 6 := by
  unfold encV
  split
  · rename_i h
    obtain ⟨h1, h2⟩ := btw_iff.1 h
    have := varN_len6 5 n.toNat (by omega)
    show (varN n.toNat).toArray.size ≤ 6
    simpa using this
  · show (#[] : Array UInt8).size ≤ 6
    simp
theorem decGo_bd {L : List UInt8} {a : Nat} : ∀ (f k n : Nat) (m z : Nat), decGo L a f k n = (m, z, true) → k < z ∧ z ≤ k + f ∧ a + z ≤ L.length ∧ m ≤ 1099511627775 := by
  intro f
  induction f with
  | zero => intro k n m z h; simp [decGo] at h
  | succ f ih =>
    intro k n m z h
    cases hx : L[a + k]? with
    | none => rw [decGo_none hx] at h; simp at h
    | some b =>
      have hlt := (List.getElem?_eq_some_iff.1 hx).1
      rw [decGo_some hx] at h
      split at h
      · split at h
        · rename_i he
          simp only [Prod.mk.injEq, and_true] at h
          obtain ⟨h1, rfl⟩ := h
          refine ⟨by omega, by omega, by omega, ?_⟩
          rw [h1] at he
          by_cases hm : m ≤ 1099511627775
          · exact hm
          · exfalso
            have e0 : (encV (m : Int)).data.toList = [] := by
              unfold encV
              rw [if_neg (by simp [btw_iff]; omega)]
            rw [e0] at he
            have : ((L.drop a).take (k + 1)).length = 0 := by rw [← he]; rfl
            rw [List.length_take, List.length_drop] at this
            omega
        · simp at h
      · have := ih _ _ _ _ h
        omega
theorem decV_bd {s : ByteArray} {a : Int} {n z : Nat} (h : decV s a = (n, z, true)) : 0 ≤ a ∧ 1 ≤ z ∧ z ≤ 6 ∧ a + z ≤ s.size ∧ n ≤ 1099511627775 := by
  unfold decV at h
  split at h
  · rename_i h0
    have h1 := decGo_bd _ _ _ _ _ h
    have h2 : s.data.toList.length = s.size := by rw [Array.length_toList]; rfl
    omega
  · simp at h
theorem i64_and1 (n : Nat) (h : n ≤ 4611686018427387903) : bits .and .i64 (n : Int) 1 = (n : Int) % 2 := bits_mask .i64 62 (by decide) wraps_i64 1 (by decide) _ (by omega) (by omega)
def signed (n : Nat) : Int := if btw (n : Int) 0 1099511627775 then (if n % 2 = 1 then -((n : Int) + 1) / 2 else (n : Int) / 2) else 0
theorem signed_bd (n : Nat) : -1099511627776 ≤ signed n ∧ signed n ≤ 1099511627776 := by
  unfold signed
  split
  · rename_i h
    have := btw_iff.1 h
    split <;> omega
  · omega
theorem tdiv_neg2 (n q : Nat) (hn : n ≤ 4398046511104) (h : n + 1 = 2 * q) : wrap64 (-((n : Int) + 1).tdiv 2) = -((n : Int) + 1) / 2 := by
  have : (n : Int) + 1 = 2 * (q : Int) := by exact_mod_cast h
  rw [this, Int.mul_tdiv_cancel_left _ (by decide), wrap64_small (by omega) (by omega)]
  omega
def packT (s : ByteArray) : ByteArray := encV s.size ++ s
def unpT (s : ByteArray) (a : Int) : ByteArray × Nat × Bool :=
  if (decV s a).2.2 && decide ((decV s a).1 ≤ s.size - a.toNat - (decV s a).2.1) then (s.extract (a.toNat + (decV s a).2.1) (a.toNat + (decV s a).2.1 + (decV s a).1), (decV s a).2.1 + (decV s a).1, true) else (⟨#[]⟩, 0, false)
def RetUnpT (p : ByteArray × Nat × Bool) (w : World) (e : Ending) (w' : World) : Prop := e = .returned (.tuple #[.string p.1, .int .i64 p.2.1, .bool p.2.2]) ∧ Gro w w'
theorem ret_unpT {p q : ByteArray × Nat × Bool} (h : p = q) {w w' : World} (hG : Gro w w') : RetUnpT p w (.returned (.tuple #[.string q.1, .int .i64 q.2.1, .bool q.2.2])) w' := by
  subst h
  exact ⟨rfl, hG⟩
set_option maxRecDepth 100000 in
theorem packT_i (s : ByteArray) (w : World) (hs : s.size ≤ 1099511627775) : Calls Tryz.prog 16 #[.string s] w fun e w' => e = .returned (.string (packT s)) ∧ Gro w w' := by
  have hz : (encV s.size).size + s.size ≤ 9223372036854775807 := by have := encV_size s.size; omega
  go_enter Tryz.func16, Tryz.ntmps16
  go_wp2_with (go_at_call 15; (with_reducible refine (encV_i _ _).mono ?_); rintro e w1 ⟨rfl, os, d, rfl⟩)
  go_ret
  exact ⟨rfl, (by repeat (first | with_reducible exact Gro.refl _ | with_reducible exact Gro.refl_drew _ _ _ | with_reducible exact Gro.refl_drewN _ _ _ _ | assumption | with_reducible apply Gro.more | with_reducible apply Gro.alloc | with_reducible apply Gro.drew | with_reducible apply Gro.drewN))⟩
set_option maxRecDepth 100000 in
theorem unpT_i (s : ByteArray) (a : Int) (w : World) (hs : s.size ≤ 1099511627776) (ha : I64 a) : Calls Tryz.prog 36 #[.string s, .int .i64 a] w (RetUnpT (unpT s a) w) := by
  obtain ⟨n, z, ok, hp⟩ : ∃ n z ok, decV s a = (n, z, ok) := ⟨_, _, _, rfl⟩
  have HP := Lib.hid hp
  cases ok
  · have HQ := Lib.hid (show unpT s a = (⟨#[]⟩, 0, false) from by simp [unpT, hp])
    clear hp
    go_enter Tryz.func36, Tryz.ntmps36
    go_wp2_with (go_at_call 34; (with_reducible refine (decV_i _ _ _ hs ha).mono ?_); rw [HP.out]; rintro e w1 ⟨rfl, os, d, rfl⟩)
    go_ret3
    exact ret_unpT HQ.out (by repeat (first | with_reducible exact Gro.refl _ | with_reducible exact Gro.refl_drew _ _ _ | with_reducible exact Gro.refl_drewN _ _ _ _ | assumption | with_reducible apply Gro.more | with_reducible apply Gro.alloc | with_reducible apply Gro.drew | with_reducible apply Gro.drewN))
  · obtain ⟨h1, h2, h3, h4, h5⟩ := decV_bd hp
    obtain ⟨a, rfl⟩ := Int.eq_ofNat_of_zero_le h1
    by_cases hf : n ≤ s.size - a - z
    · have HQ := Lib.hid (show unpT s a = (s.extract (a + z) (a + z + n), z + n, true) from by simp [unpT, hp, hf])
      clear hp
      have hf' : (n : Int) ≤ (s.size : Int) - a - z := by omega
      go_enter Tryz.func36, Tryz.ntmps36
      go_wp2_with (go_at_call 34; (with_reducible refine (decV_i _ _ _ hs ha).mono ?_); rw [HP.out]; rintro e w1 ⟨rfl, os, d, rfl⟩)
      go_ret3
      exact ret_unpT (q := (s.extract (a + z) (a + z + n), z + n, true)) HQ.out (by repeat (first | with_reducible exact Gro.refl _ | with_reducible exact Gro.refl_drew _ _ _ | with_reducible exact Gro.refl_drewN _ _ _ _ | assumption | with_reducible apply Gro.more | with_reducible apply Gro.alloc | with_reducible apply Gro.drew | with_reducible apply Gro.drewN))
    · have HQ := Lib.hid (show unpT s a = (⟨#[]⟩, 0, false) from by simp [unpT, hp, hf])
      clear hp
      have hf' : ¬ (n : Int) ≤ (s.size : Int) - a - z := by omega
      go_enter Tryz.func36, Tryz.ntmps36
      go_wp2_with (go_at_call 34; (with_reducible refine (decV_i _ _ _ hs ha).mono ?_); rw [HP.out]; rintro e w1 ⟨rfl, os, d, rfl⟩)
      go_ret3
      exact ret_unpT (q := (⟨#[]⟩, 0, false)) HQ.out (by repeat (first | with_reducible exact Gro.refl _ | with_reducible exact Gro.refl_drew _ _ _ | with_reducible exact Gro.refl_drewN _ _ _ _ | assumption | with_reducible apply Gro.more | with_reducible apply Gro.alloc | with_reducible apply Gro.drew | with_reducible apply Gro.drewN))
theorem and_not_all {α : Type} {xs : List α} {f : α → Bool} {j : Nat} {x : α} (h : xs[j]? = some x) (hf : f x = false) : xs.all f = false := allT_false h hf
def sgOk (n : Int) : Bool := btw n (-549755813888) 549755813887
theorem signless_bd {n : Int} (h : sgOk n = true) : 0 ≤ signless n ∧ signless n ≤ 1099511627775 := by
  unfold sgOk at h
  obtain ⟨h1, h2⟩ := btw_iff.1 h
  unfold signless
  rw [h, if_pos rfl]
  split <;> omega
def packL (l : List Int) : List UInt8 := (l.map fun n => (encV (signless n)).data.toList).flatten
theorem packL_snoc {l : List Int} {j : Nat} {x : Int} (h : l[j]? = some x) : packL (l.take (j + 1)) = packL (l.take j) ++ (encV (signless x)).data.toList := by
  unfold packL
  rw [take_snoc h, List.map_append, List.flatten_append]
  simp
theorem packL_len (l : List Int) (j : Nat) : (packL (l.take j)).length ≤ 6 * j := by
  have h : ∀ l : List Int, (packL l).length ≤ 6 * l.length := by
    intro l
    induction l with
    | nil => simp [packL]
    | cons x xs ih =>
      have h1 := encV_size (signless x)
      have h2 : (encV (signless x)).data.toList.length = (encV (signless x)).size := by rw [Array.length_toList]; rfl
      have h3 : packL (x :: xs) = (encV (signless x)).data.toList ++ packL xs := rfl
      rw [h3, List.length_append, List.length_cons]
      omega
  have := h (l.take j)
  have h2 := List.length_take_le j l
  omega
def packI (l : List Int) : ByteArray := if l.all sgOk then ⟨((encV l.length).data.toList ++ packL l).toArray⟩ else ⟨#[]⟩
theorem encV_llen (n : Int) : (encV n).data.toList.length ≤ 6 := by rw [Array.length_toList]; exact encV_size n
theorem OwnB.since {lo lo' : Nat} {W : World} {A : Option Addr} {c : Nat} {xs : List UInt8} (h : OwnB lo W A c xs) (hl : lo' ≤ lo) : OwnB lo' W A c xs := by
  obtain ⟨g, h0, h1, h2⟩ := h
  exact ⟨g, h0, Nat.le_trans hl h1, h2⟩
theorem llen (s : ByteArray) : s.data.toList.length = s.size := by rw [Array.length_toList]; rfl
theorem str_of (s : ByteArray) : (⟨s.data.toList.toArray⟩ : ByteArray) = s := by simp
theorem size_of (l : List UInt8) : (⟨l.toArray⟩ : ByteArray).size = l.length := by
  show l.toArray.size = _
  simp
def unpGo (s : ByteArray) (a : Int) : Nat → Nat → List Int → Option (List Int × Nat)
  | 0, z, acc => some (acc, z)
  | c + 1, z, acc => if (decV s (a + z)).2.2 then unpGo s a c (z + (decV s (a + z)).2.1) (acc ++ [signed (decV s (a + z)).1]) else none
def unpR : Option (List Int × Nat) → List Int × Nat × Bool
  | some (l, n) => (l, n, true)
  | none => ([], 0, false)
def unpI (s : ByteArray) (a : Int) : List Int × Nat × Bool := if (decV s a).2.2 then unpR (unpGo s a (decV s a).1 (decV s a).2.1 []) else ([], 0, false)
theorem unpGo_fail {s : ByteArray} {a : Int} {f q : Nat} {acc : List Int} {m t : Nat} (h : decV s (a + q) = (m, t, false)) : unpGo s a (f + 1) q acc = none := by
  simp [unpGo, h]
theorem unpGo_ok {s : ByteArray} {a : Int} {f q : Nat} {acc : List Int} {m t : Nat} (h : decV s (a + q) = (m, t, true)) : unpGo s a (f + 1) q acc = unpGo s a f (q + t) (acc ++ [signed m]) := by
  simp [unpGo, h]
theorem unpGo_none {s : ByteArray} {a : Nat} : ∀ {c z : Nat} {acc : List Int}, a + z ≤ s.size → s.size < a + z + c → unpGo s a c z acc = none := by
  intro c
  induction c with
  | zero => intro z acc h1 h2; omega
  | succ c ih =>
    intro z acc h1 h2
    obtain ⟨m, t, ok, hm⟩ : ∃ m t ok, decV s ((a : Int) + z) = (m, t, ok) := ⟨_, _, _, rfl⟩
    cases ok
    · exact unpGo_fail hm
    · have := decV_bd hm
      rw [unpGo_ok hm]
      exact ih (by omega) (by omega)
theorem decGo_zero {L : List UInt8} {a : Nat} : ∀ (f k n : Nat) (m z : Nat), decGo L a f k n = (m, z, false) → m = 0 ∧ z = 0 := by
  intro f
  induction f with
  | zero => intro k n m z h; simp [decGo] at h; omega
  | succ f ih =>
    intro k n m z h
    cases hx : L[a + k]? with
    | none => rw [decGo_none hx] at h; simp at h; omega
    | some b =>
      rw [decGo_some hx] at h
      split at h
      · split at h
        · simp at h
        · simp at h; omega
      · exact ih _ _ _ _ h
theorem decV_zero {s : ByteArray} {a : Int} {m z : Nat} (h : decV s a = (m, z, false)) : m = 0 ∧ z = 0 := by
  unfold decV at h
  split at h
  · exact decGo_zero _ _ _ _ _ h
  · simp at h; omega
def RetUnp (p : List Int × Nat × Bool) (w : World) (e : Ending) (w' : World) : Prop := ∃ A c, e = .returned (.tuple #[.slice A p.1.length c, .int .i64 p.2.1, .bool p.2.2]) ∧ Fresh (intT.sl 3) w w' [.slice A p.1.length c] p.1 ∧ Gro w w'
theorem ret_unp {p q : List Int × Nat × Bool} (h : p = q) {w w' : World} {A : Option Addr} {c : Nat} (hF : Fresh (intT.sl 3) w w' [.slice A q.1.length c] q.1) (hG : Gro w w') : RetUnp p w (.returned (.tuple #[.slice A q.1.length c, .int .i64 q.2.1, .bool q.2.2])) w' := by
  subst h
  exact ⟨A, c, rfl, hF, hG⟩
end Go.Proofs.YtcomafmiclkmhaaGreatDoor
