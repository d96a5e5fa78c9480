/-
  SAMPLE, PART 3: what is packed is unpacked; DecodeSample of the two makes: one function.
-/
import Derived.Test.YtemeenondbdioaaSample2
import Derived.Deep.RegionHeld3
set_option linter.unusedVariables false
set_option linter.unusedSimpArgs false
namespace Go.Proofs.Ytemeenondbdioaa
open Go.RowKit
theorem signed_less {x : Int} (h : sgOk x = true) : signed (signless x).toNat = x := by
  have hb := signless_bd h
  unfold sgOk at h
  have h2 := btw_iff.1 h
  unfold signed
  rw [if_pos (btw_mk (by omega) (by omega))]
  have e : signless x = if x < 0 then -2 * x - 1 else 2 * x := by unfold signless; rw [h, if_pos rfl]
  split at e
  · rw [if_pos (by omega)]; omega
  · rw [if_neg (by omega)]; omega
theorem decGo_enc {L rest : List UInt8} {a N : Nat} (hN : N ≤ 1099511627775) (hL : L.drop a = varN N ++ rest) : ∀ (f k n m : Nat) (P : List UInt8), N = n + m * 128 ^ k → varN N = P ++ varN m → P.length = k → m < 128 ^ (f + 1) → decGo L a (f + 1) k n = (N, (varN N).length, true) := by
  intro f
  induction f with
  | zero =>
    intro k n m P h1 h2 h3 h4
    have hm : m < 128 := by simpa using h4
    have hx : L[a + k]? = some (UInt8.ofNat m) := by
      rw [← List.getElem?_drop, hL, h2, varN_lo hm, ← h3]
      simp
    have hb : (UInt8.ofNat m).toNat = m := UInt8.toNat_ofNat_of_lt' (by show m < 256; omega)
    rw [decGo_some hx, hb, if_pos hm, Nat.mod_eq_of_lt hm, ← h1, encV_list hN]
    have hl : (varN N).length = k + 1 := by rw [h2, varN_lo hm, List.length_append, h3]; rfl
    rw [if_pos (by rw [hL, ← hl]; simp), hl]
  | succ f ih =>
    intro k n m P h1 h2 h3 h4
    by_cases hm : m < 128
    · have hx : L[a + k]? = some (UInt8.ofNat m) := by
        rw [← List.getElem?_drop, hL, h2, varN_lo hm, ← h3]
        simp
      have hb : (UInt8.ofNat m).toNat = m := UInt8.toNat_ofNat_of_lt' (by show m < 256; omega)
      rw [decGo_some hx, hb, if_pos hm, Nat.mod_eq_of_lt hm, ← h1, encV_list hN]
      have hl : (varN N).length = k + 1 := by rw [h2, varN_lo hm, List.length_append, h3]; rfl
      rw [if_pos (by rw [hL, ← hl]; simp), hl]
    · have hv := varN_hi (n := m) (by omega)
      have hx : L[a + k]? = some (UInt8.ofNat (m % 128 + 128)) := by
        rw [← List.getElem?_drop, hL, h2, hv, ← h3]
        simp
      have hb : (UInt8.ofNat (m % 128 + 128)).toNat = m % 128 + 128 := UInt8.toNat_ofNat_of_lt' (by show m % 128 + 128 < 256; omega)
      rw [decGo_some hx, hb, if_neg (by omega)]
      have e1 : (m % 128 + 128) % 128 = m % 128 := by omega
      rw [e1]
      refine ih (k + 1) _ (m / 128) (P ++ [UInt8.ofNat (m % 128 + 128)]) ?_ (by rw [h2, hv]; simp) (by simp [h3]) (by rw [Nat.pow_succ] at h4; omega)
      have e2 : m * 128 ^ k = (m % 128 + 128 * (m / 128)) * 128 ^ k := by rw [Nat.mod_add_div]
      rw [h1, e2, Nat.add_mul, Nat.pow_succ]
      rw [Nat.add_assoc, Nat.mul_comm 128 (m / 128), Nat.mul_assoc, Nat.mul_comm 128 (128 ^ k)]
theorem decV_enc {s : ByteArray} {a N : Nat} {rest : List UInt8} (hN : N ≤ 1099511627775) (hL : s.data.toList.drop a = varN N ++ rest) : decV s a = (N, (varN N).length, true) := by
  unfold decV
  rw [if_pos (by omega), Int.toNat_natCast]
  exact decGo_enc hN hL 5 0 0 N [] (by simp) rfl rfl (by omega)
theorem packL_cons {x : Int} {l : List Int} (h : sgOk x = true) : packL (x :: l) = varN (signless x).toNat ++ packL l := by
  have hb := signless_bd h
  have : (encV (signless x)).data.toList = varN (signless x).toNat := by
    obtain ⟨n, hn⟩ := Int.eq_ofNat_of_zero_le hb.1
    rw [hn]
    exact encV_list (by omega)
  rw [← this]
  rfl
theorem unpGo_enc {s : ByteArray} {a : Nat} : ∀ (l : List Int) (z : Nat) (acc : List Int) (rest : List UInt8), l.all sgOk = true → s.data.toList.drop (a + z) = packL l ++ rest → unpGo s a l.length z acc = some (acc ++ l, z + (packL l).length)
  | [], z, acc, rest, _, _ => by simp [unpGo, packL]
  | x :: l, z, acc, rest, h, hd => by
    simp only [List.all_cons, Bool.and_eq_true] at h
    have hb := signless_bd h.1
    rw [packL_cons h.1, List.append_assoc] at hd
    have h1 := decV_enc (N := (signless x).toNat) (by omega) hd
    have e : ((a + z : Nat) : Int) = (a : Int) + z := by omega
    rw [e] at h1
    rw [List.length_cons, unpGo_ok h1, unpGo_enc l _ _ rest h.2 (by rw [← Nat.add_assoc, ← List.drop_drop, hd]; simp), signed_less h.1, packL_cons h.1]
    simp [Nat.add_assoc]
theorem unpI_enc {s : ByteArray} {a : Nat} {l : List Int} {rest : List UInt8} (hl : l.length ≤ 1099511627775) (h : l.all sgOk = true) (hd : s.data.toList.drop a = varN l.length ++ (packL l ++ rest)) : unpI s a = (l, (varN l.length).length + (packL l).length, true) := by
  have h1 := decV_enc hl hd
  unfold unpI
  rw [h1]
  simp only [if_true]
  rw [unpGo_enc l _ [] rest h (by rw [← List.drop_drop, hd]; simp)]
  simp [unpR]
def zSample : DSample := ⟨0, ⟨0, 0, 0, []⟩⟩
def mkS (t : Int) (l : List Int) : DSample := ⟨t, ⟨(l[0]?).getD 0, (l[1]?).getD 0, (l[2]?).getD 0, l.drop 3⟩⟩
def decS (s : ByteArray) : DSample × Bool :=
  if (unpI s (decV s 0).2.1).2.2 = true ∧ 3 ≤ (unpI s (decV s 0).2.1).1.length ∧ encS (mkS (decV s 0).1 (unpI s (decV s 0).2.1).1) = s then (mkS (decV s 0).1 (unpI s (decV s 0).2.1).1, true) else (zSample, false)
theorem ba_eq {x y : ByteArray} (h : x.data.toList = y.data.toList) : x = y := by
  cases x; cases y; simpa using h
theorem decS_more {s : ByteArray} (h1 : (unpI s (decV s 0).2.1).2.2 = true) (h2 : 3 ≤ (unpI s (decV s 0).2.1).1.length) (h2' : (unpI s (decV s 0).2.1).1.length ≤ 1099511627775) (h3 : encS (mkS (decV s 0).1 (unpI s (decV s 0).2.1).1) = s) :
    (decV s 0).2.2 = true ∧ (decV s 0).2.1 + (unpI s (decV s 0).2.1).2.1 = s.size := by
  obtain ⟨t, z, ok, hd⟩ : ∃ t z ok, decV s 0 = (t, z, ok) := ⟨_, _, _, rfl⟩
  rw [hd] at h1 h2 h2' h3 ⊢
  simp only at h1 h2 h2' h3 ⊢
  obtain ⟨l, n, ok2, hu⟩ : ∃ l n ok2, unpI s z = (l, n, ok2) := ⟨_, _, _, rfl⟩
  rw [hu] at h1 h2 h2' h3 ⊢
  simp only at h1 h2 h2' h3 ⊢
  subst h1
  unfold encS at h3
  split at h3
  · rename_i hok
    have hl : [(mkS t l).View.Pc, (mkS t l).View.Sp, (mkS t l).View.Fp] ++ (mkS t l).View.Words = l := by
      match l, h2 with
      | a :: b :: c :: r, _ => rfl
    have hl' : ((mkS t l).View.Pc :: (mkS t l).View.Sp :: (mkS t l).View.Fp :: (mkS t l).View.Words) = l := hl
    simp only [sampleOk, viewOk, Bool.and_eq_true] at hok
    obtain ⟨k1, ⟨k2, k3⟩, k4, k5, k6⟩ := hok
    have hall : l.all sgOk = true := by
      rw [← hl]
      simp only [List.all_append, List.all_cons, List.all_nil, Bool.and_true, Bool.and_eq_true]
      have a4 := btw_iff.1 k4
      have a2 := btw_iff.1 k2
      exact ⟨⟨btw_mk (by omega) (by omega), btw_mk (by omega) (by omega), k5⟩, k6⟩
    rw [hl'] at h3
    have ht : t ≤ 1099511627775 := by
      have a1 := btw_iff.1 k1
      have : ((mkS t l).Thread : Int) = t := rfl
      omega
    have hs : s.data.toList = varN t ++ (varN l.length ++ (packL l ++ [])) := by
      rw [← h3]
      have e1 : (encV (mkS t l).Thread).data.toList = varN t := encV_list ht
      have e2 : (packI l).data.toList = varN l.length ++ packL l := by
        unfold packI
        rw [hall, if_pos rfl]
        show (encV l.length).data.toList ++ packL l = _
        rw [encV_list h2']
      rw [ByteArray.data_append, Array.toList_append, e1, e2, List.append_nil]
    have hd2 := decV_enc (s := s) (a := 0) ht hs
    rw [show ((0 : Nat) : Int) = 0 from rfl, hd] at hd2
    simp only [Prod.mk.injEq] at hd2
    obtain ⟨_, hz, hok⟩ := hd2
    have hu2 := unpI_enc (s := s) (a := z) (rest := []) h2' hall (by rw [hs, hz]; simp)
    rw [hu] at hu2
    simp only [Prod.mk.injEq] at hu2
    refine ⟨hok, ?_⟩
    have hsz : s.size = s.data.toList.length := by rw [Array.length_toList]; rfl
    rw [hu2.2.1, hsz, hs, hz]
    simp
  · exfalso
    have : decV s 0 = (0, 0, false) := by rw [← h3]; rfl
    rw [hd] at this
    simp only [Prod.mk.injEq] at this
    rw [this.2.1, ← h3] at hu
    have hq : unpI (⟨#[]⟩ : ByteArray) (0 : Nat) = ([], 0, false) := rfl
    rw [hq] at hu
    simp at hu
end Go.Proofs.Ytemeenondbdioaa
