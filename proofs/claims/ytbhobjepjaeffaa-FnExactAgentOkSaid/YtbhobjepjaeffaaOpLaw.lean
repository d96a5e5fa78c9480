/-
  OPLAW: an instruction out of its bytes, in plain words.
-/
import Derived.Test.YtbhobjepjaeffaaVarint2
set_option linter.unusedVariables false
set_option linter.unusedSimpArgs false
namespace Go.Proofs.Ytbhobjepjaeffaa
open Go.RowKit
/-- how many bytes an argument has, and whether it has a sign -/
def opW (c : Int) : Nat × Bool :=
  if c = 0 then (4, true)
  else if c = 1 ∨ c = 2 ∨ c = 3 ∨ c = 4 ∨ c = 10 ∨ c = 11 then (2, true)
  else if c = 16 then (2, false)
  else if c = 12 ∨ c = 13 ∨ c = 14 ∨ c = 15 then (1, false)
  else (0, false)
theorem opW_cases (c : Int) : opW c = (4, true) ∨ opW c = (2, true) ∨ opW c = (2, false) ∨ opW c = (1, false) ∨ opW c = (0, false) := by
  unfold opW
  split
  · simp
  · split
    · simp
    · split
      · simp
      · split <;> simp
theorem opW_le (c : Int) : (opW c).1 ≤ 4 := by
  rcases opW_cases c with h | h | h | h | h <;> rw [h] <;> decide
def opSize (c : Int) : Int := if btw c 0 17 = true then ((opW c).1 : Int) + 1 else 0
def byteN (s : ByteArray) (a : Nat) : Nat := (s.data.toList[a]?.map UInt8.toNat).getD 0
theorem byteN_get {s : ByteArray} {a : Nat} (h : a < s.size) : byteN s a = s[a].toNat := by
  unfold byteN
  rw [bytes_get s a h]
  rfl
theorem byteN_lt (s : ByteArray) (a : Nat) : byteN s a < 256 := by
  unfold byteN
  cases s.data.toList[a]? with
  | none => simp
  | some b => simpa using b.toNat_lt
/-- the number of k bytes from a on, the least first -/
def argU (s : ByteArray) (a : Nat) : Nat → Nat
  | 0 => 0
  | k + 1 => argU s a k + byteN s (a + k) * 256 ^ k
theorem argU_lt (s : ByteArray) (a : Nat) : ∀ k, argU s a k < 256 ^ k
  | 0 => by simp [argU]
  | k + 1 => by
    have h1 := argU_lt s a k
    have h2 := byteN_lt s (a + k)
    have h3 : byteN s (a + k) * 256 ^ k ≤ 255 * 256 ^ k := Nat.mul_le_mul_right _ (by omega)
    have h4 : (256 : Nat) ^ (k + 1) = 256 * 256 ^ k := by rw [Nat.pow_succ, Nat.mul_comm]
    simp only [argU]
    omega
def argS (w : Nat) (sg : Bool) (u : Nat) : Int := if sg = true ∧ 2 ^ (8 * w - 1) ≤ u then (u : Int) - 2 ^ (8 * w) else u
structure OpR where
  code : Int
  arg : Int
  n : Nat
  ok : Bool
def decOp (s : ByteArray) (a : Int) : OpR :=
  if 0 ≤ a ∧ a < s.size ∧ byteN s a.toNat ≤ 17 ∧ a.toNat + 1 + (opW (byteN s a.toNat : Nat)).1 ≤ s.size then
    ⟨(byteN s a.toNat : Nat), argS (opW (byteN s a.toNat : Nat)).1 (opW (byteN s a.toNat : Nat)).2 (argU s (a.toNat + 1) (opW (byteN s a.toNat : Nat)).1), (opW (byteN s a.toNat : Nat)).1 + 1, true⟩
  else ⟨0, 0, 0, false⟩
theorem decOp_no {s : ByteArray} {a : Int} (h : ¬ (0 ≤ a ∧ a < s.size ∧ byteN s a.toNat ≤ 17 ∧ a.toNat + 1 + (opW (byteN s a.toNat : Nat)).1 ≤ s.size)) : decOp s a = ⟨0, 0, 0, false⟩ := if_neg h
theorem decOp_yes {s : ByteArray} {a : Nat} {c w : Nat} {sg : Bool} (h1 : a < s.size) (h2 : byteN s a = c) (h3 : c ≤ 17) (h4 : opW (c : Int) = (w, sg)) (h5 : a + 1 + w ≤ s.size) : decOp s (a : Int) = ⟨c, argS w sg (argU s (a + 1) w), w + 1, true⟩ := by
  unfold decOp
  rw [Int.toNat_natCast, h2, h4, if_pos ⟨by omega, by omega, h3, h5⟩]
theorem decOp_ok {s : ByteArray} {a : Int} {r : OpR} (h : decOp s a = r) (hk : r.ok = true) : 0 ≤ a ∧ 1 ≤ r.n ∧ r.n ≤ 5 ∧ a + r.n ≤ s.size ∧ 0 ≤ r.code ∧ r.code ≤ 17 := by
  subst h
  unfold decOp at hk ⊢
  split
  · rename_i h
    have := opW_le (byteN s a.toNat : Nat)
    simp only
    omega
  · rename_i h
    rw [if_neg h] at hk
    cases hk
theorem decOp_zero {s : ByteArray} {a : Int} {r : OpR} (h : decOp s a = r) (hk : r.ok = false) : r = ⟨0, 0, 0, false⟩ := by
  subst h
  unfold decOp at hk ⊢
  split
  · rename_i h
    rw [if_pos h] at hk
    cases hk
  · rfl
theorem argS_bd (w : Nat) (sg : Bool) (u : Nat) (hw : w ≤ 4) (hu : u < 256 ^ w) : -2147483648 ≤ argS w sg u ∧ argS w sg u ≤ 4294967295 := by
  unfold argS
  have h4 : w = 0 ∨ w = 1 ∨ w = 2 ∨ w = 3 ∨ w = 4 := by omega
  split
  · rename_i h
    obtain ⟨_, h⟩ := h
    rcases h4 with rfl | rfl | rfl | rfl | rfl <;> simp at h hu ⊢ <;> omega
  · rcases h4 with rfl | rfl | rfl | rfl | rfl <;> simp at hu ⊢ <;> omega
theorem decOp_arg {s : ByteArray} {a : Int} {r : OpR} (h : decOp s a = r) : -2147483648 ≤ r.arg ∧ r.arg ≤ 4294967295 := by
  subst h
  unfold decOp
  split
  · exact argS_bd _ _ _ (opW_le _) (argU_lt _ _ _)
  · simp
/-- the argument's bounds by the code -/
theorem decOp_bd {s : ByteArray} {a : Int} {r : OpR} (h : decOp s a = r) : (r.code = 1 ∨ r.code = 2 ∨ r.code = 3 ∨ r.code = 4 ∨ r.code = 10 ∨ r.code = 11 → -32768 ≤ r.arg ∧ r.arg ≤ 32767) ∧ (r.code = 16 → 0 ≤ r.arg ∧ r.arg ≤ 65535) ∧ (r.code = 12 ∨ r.code = 13 ∨ r.code = 14 ∨ r.code = 15 → 0 ≤ r.arg ∧ r.arg ≤ 255) := by
  subst h
  unfold decOp
  split
  · simp only
    refine ⟨fun hc => ?_, fun hc => ?_, fun hc => ?_⟩
    · have e : opW (byteN s a.toNat : Nat) = (2, true) := by
        unfold opW
        rw [if_neg (by omega), if_pos hc]
      rw [e]
      have := argU_lt s (a.toNat + 1) 2
      simp only at this ⊢
      unfold argS
      split <;> simp at this ⊢ <;> (try (rename_i hh; simp at hh)) <;> omega
    · have e : opW (byteN s a.toNat : Nat) = (2, false) := by
        unfold opW
        rw [if_neg (by omega), if_neg (by omega), if_pos hc]
      rw [e]
      have := argU_lt s (a.toNat + 1) 2
      simp [argS] at this ⊢
      omega
    · have e : opW (byteN s a.toNat : Nat) = (1, false) := by
        unfold opW
        rw [if_neg (by omega), if_neg (by omega), if_neg (by omega), if_pos hc]
      rw [e]
      have := argU_lt s (a.toNat + 1) 1
      simp [argS] at this ⊢
      omega
  · simp
/-- whether a text of instructions can be read from a place on -/
def disF (s : ByteArray) : Nat → Nat → Bool
  | 0, a => decide (s.size ≤ a)
  | f + 1, a => if a < s.size then (if (decOp s (a : Int)).ok = true then disF s f (a + (decOp s (a : Int)).n) else false) else true
def disOk (s : ByteArray) (a : Nat) : Bool := disF s (s.size - a) a
theorem disF_more (s : ByteArray) : ∀ (f a : Nat), s.size - a ≤ f → disF s f a = disF s (s.size - a) a := by
  intro f
  induction f with
  | zero => intro a h; rw [show s.size - a = 0 from by omega]
  | succ f ih =>
    intro a h
    by_cases ha : a < s.size
    · obtain ⟨k, hk⟩ : ∃ k, s.size - a = k + 1 := ⟨s.size - a - 1, by omega⟩
      rw [hk]
      simp only [disF, if_pos ha]
      split
      · rename_i hok
        have := decOp_ok (s := s) (a := (a : Int)) rfl hok
        rw [ih _ (by omega)]
        have key : ∀ g, s.size - (a + (decOp s (a : Int)).n) ≤ g → g ≤ f → disF s g (a + (decOp s (a : Int)).n) = disF s (s.size - (a + (decOp s (a : Int)).n)) (a + (decOp s (a : Int)).n) := by
          intro g hg hgf
          by_cases e : g = f
          · subst e; exact ih _ hg
          · obtain ⟨d, hd⟩ : ∃ d, g = (s.size - (a + (decOp s (a : Int)).n)) + d := ⟨_, (Nat.add_sub_cancel' hg).symm⟩
            clear hgf e
            subst hd
            generalize (a + (decOp s (a : Int)).n) = b
            clear ih h ha hk hok this hg
            suffices h : ∀ (m d b : Nat), s.size - b ≤ m → disF s (m + d) b = disF s m b by exact h _ d b (Nat.le_refl _)
            intro m
            induction m with
            | zero =>
              intro d b hb
              cases d with
              | zero => rfl
              | succ d => simp only [Nat.zero_add, disF]; rw [if_neg (by omega)]; simp; omega
            | succ m im =>
              intro d b hb
              rw [Nat.add_right_comm]
              simp only [disF]
              split
              · split
                · rename_i h1 h2
                  have := decOp_ok (s := s) (a := (b : Int)) rfl h2
                  exact im _ _ (by omega)
                · rfl
              · rfl
        exact (key k (by omega) (by omega)).symm
      · rfl
    · rw [show s.size - a = 0 from by omega]
      simp only [disF, if_neg ha]
      simp; omega
theorem disOk_end {s : ByteArray} {a : Nat} (h : s.size ≤ a) : disOk s a = true := by
  unfold disOk
  rw [show s.size - a = 0 from by omega]
  simp [disF, h]
theorem disOk_bad {s : ByteArray} {a : Nat} (h : a < s.size) (hk : (decOp s (a : Int)).ok = false) : disOk s a = false := by
  unfold disOk
  obtain ⟨k, hk'⟩ : ∃ k, s.size - a = k + 1 := ⟨s.size - a - 1, by omega⟩
  rw [hk']
  simp [disF, h, hk]
theorem disOk_step {s : ByteArray} {a : Nat} (h : a < s.size) (hk : (decOp s (a : Int)).ok = true) : disOk s a = disOk s (a + (decOp s (a : Int)).n) := by
  have := decOp_ok (s := s) (a := (a : Int)) rfl hk
  unfold disOk
  obtain ⟨k, hk'⟩ : ∃ k, s.size - a = k + 1 := ⟨s.size - a - 1, by omega⟩
  rw [hk']
  simp only [disF, if_pos h, if_pos hk]
  exact disF_more _ _ _ (by omega)
end Go.Proofs.Ytbhobjepjaeffaa
