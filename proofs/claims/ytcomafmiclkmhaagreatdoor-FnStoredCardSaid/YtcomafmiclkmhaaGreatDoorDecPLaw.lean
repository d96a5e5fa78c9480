/-
  DECP: what DecodeProfile comes to, in plain terms.
-/
import Derived.Test.YtcomafmiclkmhaaGreatDoorEncP
import Derived.Test.YtcomafmiclkmhaaGreatDoorProfile2
set_option linter.unusedVariables false
set_option linter.unusedSimpArgs false
namespace Go.Proofs.YtcomafmiclkmhaaGreatDoor
open Go.RowKit
def nilP : DProfile := ⟨⟨[]⟩, []⟩
def rdNames (s : ByteArray) : Nat → Nat → List ByteArray → Option (List ByteArray × Nat)
  | 0, a, acc => some (acc, a)
  | n + 1, a, acc => if (unpT s a).2.2 then rdNames s n (a + (unpT s a).2.1) (acc ++ [(unpT s a).1]) else none
def pushP (p : DProfile) (x : DNode) (c : Int) : DProfile := ⟨⟨p.Stacks.Nodes ++ [x]⟩, p.Counts ++ [c]⟩
/-- four numbers from a place on, and the place behind them -/
def rdFour (s : ByteArray) (a : Nat) : Option (Nat × Nat × Nat × Nat × Nat) :=
  if (decV s a).2.2 then
    if (decV s (a + (decV s a).2.1 : Nat)).2.2 then
      if (decV s (a + (decV s a).2.1 + (decV s (a + (decV s a).2.1 : Nat)).2.1 : Nat)).2.2 then
        if (decV s (a + (decV s a).2.1 + (decV s (a + (decV s a).2.1 : Nat)).2.1 + (decV s (a + (decV s a).2.1 + (decV s (a + (decV s a).2.1 : Nat)).2.1 : Nat)).2.1 : Nat)).2.2 then
          some ((decV s a).1, (decV s (a + (decV s a).2.1 : Nat)).1, (decV s (a + (decV s a).2.1 + (decV s (a + (decV s a).2.1 : Nat)).2.1 : Nat)).1,
            (decV s (a + (decV s a).2.1 + (decV s (a + (decV s a).2.1 : Nat)).2.1 + (decV s (a + (decV s a).2.1 + (decV s (a + (decV s a).2.1 : Nat)).2.1 : Nat)).2.1 : Nat)).1,
            a + (decV s a).2.1 + (decV s (a + (decV s a).2.1 : Nat)).2.1 + (decV s (a + (decV s a).2.1 + (decV s (a + (decV s a).2.1 : Nat)).2.1 : Nat)).2.1 + (decV s (a + (decV s a).2.1 + (decV s (a + (decV s a).2.1 : Nat)).2.1 + (decV s (a + (decV s a).2.1 + (decV s (a + (decV s a).2.1 : Nat)).2.1 : Nat)).2.1 : Nat)).2.1)
        else none
      else none
    else none
  else none
theorem rdFour_1 {s : ByteArray} {a n1 z1 : Nat} (h1 : decV s a = (n1, z1, false)) : rdFour s a = none := by simp [rdFour, h1]
theorem rdFour_2 {s : ByteArray} {a n1 z1 n2 z2 : Nat} (h1 : decV s a = (n1, z1, true)) (h2 : decV s (a + z1 : Nat) = (n2, z2, false)) : rdFour s a = none := by
  unfold rdFour
  rw [h1]
  simp only [if_true]
  rw [h2]
  simp
theorem rdFour_3 {s : ByteArray} {a n1 z1 n2 z2 n3 z3 : Nat} (h1 : decV s a = (n1, z1, true)) (h2 : decV s (a + z1 : Nat) = (n2, z2, true)) (h3 : decV s (a + z1 + z2 : Nat) = (n3, z3, false)) : rdFour s a = none := by
  unfold rdFour
  rw [h1]
  simp only [if_true]
  rw [h2]
  simp only [if_true]
  rw [h3]
  simp
theorem rdFour_4 {s : ByteArray} {a n1 z1 n2 z2 n3 z3 n4 z4 : Nat} (h1 : decV s a = (n1, z1, true)) (h2 : decV s (a + z1 : Nat) = (n2, z2, true)) (h3 : decV s (a + z1 + z2 : Nat) = (n3, z3, true)) (h4 : decV s (a + z1 + z2 + z3 : Nat) = (n4, z4, false)) : rdFour s a = none := by
  unfold rdFour
  rw [h1]
  simp only [if_true]
  rw [h2]
  simp only [if_true]
  rw [h3]
  simp only [if_true]
  rw [h4]
  simp
theorem rdFour_ok {s : ByteArray} {a n1 z1 n2 z2 n3 z3 n4 z4 : Nat} (h1 : decV s a = (n1, z1, true)) (h2 : decV s (a + z1 : Nat) = (n2, z2, true)) (h3 : decV s (a + z1 + z2 : Nat) = (n3, z3, true)) (h4 : decV s (a + z1 + z2 + z3 : Nat) = (n4, z4, true)) : rdFour s a = some (n1, n2, n3, n4, a + z1 + z2 + z3 + z4) := by
  unfold rdFour
  rw [h1]
  simp only [if_true]
  rw [h2]
  simp only [if_true]
  rw [h3]
  simp only [if_true]
  rw [h4]
  simp
def rdNodes (s : ByteArray) (ns : List ByteArray) : Nat → Nat → DProfile → Option DProfile
  | 0, _, p => some p
  | n + 1, a, p => match rdFour s a with
    | some (v0, v1, v2, v3, b) => match ns[v1]? with
      | some t => rdNodes s ns n b (pushP p ⟨(v0 : Int) - 1, ⟨t, (v2 : Int)⟩⟩ (v3 : Int))
      | none => none
    | none => none
theorem rdNodes_bad {s : ByteArray} {ns : List ByteArray} {n a : Nat} {p : DProfile} (h : rdFour s a = none) : rdNodes s ns (n + 1) a p = none := by rw [rdNodes, h]
theorem rdNodes_far {s : ByteArray} {ns : List ByteArray} {n a v0 v1 v2 v3 b : Nat} {p : DProfile} (h : rdFour s a = some (v0, v1, v2, v3, b)) (h1 : ns.length ≤ v1) : rdNodes s ns (n + 1) a p = none := by
  rw [rdNodes, h]
  simp only
  rw [List.getElem?_eq_none h1]
theorem rdNodes_ok {s : ByteArray} {ns : List ByteArray} {n a v0 v1 v2 v3 b : Nat} {p : DProfile} {t : ByteArray} (h : rdFour s a = some (v0, v1, v2, v3, b)) (h1 : ns[v1]? = some t) : rdNodes s ns (n + 1) a p = rdNodes s ns n b (pushP p ⟨(v0 : Int) - 1, ⟨t, (v2 : Int)⟩⟩ (v3 : Int)) := by
  rw [rdNodes, h]
  simp only
  rw [h1]
/-- a place in the middle where the names end before the number: none -/
theorem rdNodes_mid {s : ByteArray} {ns : List ByteArray} {n a n1 z1 n2 z2 : Nat} {p : DProfile} (h1 : decV s a = (n1, z1, true)) (h2 : decV s (a + z1 : Nat) = (n2, z2, true)) (h : ns.length ≤ n2) : rdNodes s ns (n + 1) a p = none := by
  obtain ⟨n3, z3, ok3, h3⟩ : ∃ n3 z3 ok3, decV s (a + z1 + z2 : Nat) = (n3, z3, ok3) := ⟨_, _, _, rfl⟩
  cases ok3 with
  | false => exact rdNodes_bad (rdFour_3 h1 h2 h3)
  | true =>
    obtain ⟨n4, z4, ok4, h4⟩ : ∃ n4 z4 ok4, decV s (a + z1 + z2 + z3 : Nat) = (n4, z4, ok4) := ⟨_, _, _, rfl⟩
    cases ok4 with
    | false => exact rdNodes_bad (rdFour_4 h1 h2 h3 h4)
    | true => exact rdNodes_far (rdFour_ok h1 h2 h3 h4) h
theorem rdNames_bad {s t : ByteArray} {n a z : Nat} {acc : List ByteArray} (h : unpT s a = (t, z, false)) : rdNames s (n + 1) a acc = none := by rw [rdNames, h]; rfl
theorem rdNames_ok {s t : ByteArray} {n a z : Nat} {acc : List ByteArray} (h : unpT s a = (t, z, true)) : rdNames s (n + 1) a acc = rdNames s n (a + z) (acc ++ [t]) := by rw [rdNames, h]; rfl
/-- what has been read, before it is compared -/
def rawP (s : ByteArray) : Option DProfile :=
  if (decV s 0).2.2 then match rdNames s (decV s 0).1 (decV s 0).2.1 [] with
    | some (ns, a) => if (decV s a).2.2 then rdNodes s ns (decV s a).1 (a + (decV s a).2.1) nilP else none
    | none => none
  else none
def decP (s : ByteArray) : DProfile × Bool := match rawP s with
  | some p => if encP p = s then (p, true) else (nilP, false)
  | none => (nilP, false)
theorem decP_none {s : ByteArray} (h : rawP s = none) : decP s = (nilP, false) := by rw [decP, h]
theorem decP_eq {s : ByteArray} {p : DProfile} (h : rawP s = some p) (he : encP p = s) : decP s = (p, true) := by rw [decP, h]; simp [he]
theorem decP_ne {s : ByteArray} {p : DProfile} (h : rawP s = some p) (he : encP p ≠ s) : decP s = (nilP, false) := by rw [decP, h]; simp [he]
theorem rawP_0 {s : ByteArray} {n z : Nat} (h : decV s 0 = (n, z, false)) : rawP s = none := by simp [rawP, h]
theorem rawP_1 {s : ByteArray} {n z : Nat} (h : decV s 0 = (n, z, true)) (h1 : rdNames s n z [] = none) : rawP s = none := by simp [rawP, h, h1]
theorem rawP_2 {s : ByteArray} {n z a m y : Nat} {ns : List ByteArray} (h : decV s 0 = (n, z, true)) (h1 : rdNames s n z [] = some (ns, a)) (h2 : decV s a = (m, y, false)) : rawP s = none := by simp [rawP, h, h1, h2]
theorem rawP_ok {s : ByteArray} {n z a m y : Nat} {ns : List ByteArray} (h : decV s 0 = (n, z, true)) (h1 : rdNames s n z [] = some (ns, a)) (h2 : decV s a = (m, y, true)) : rawP s = rdNodes s ns m (a + y) nilP := by simp [rawP, h, h1, h2]
theorem unpT_bd {s t : ByteArray} {a z : Nat} (h : unpT s a = (t, z, true)) : 1 ≤ z ∧ a + z ≤ s.size ∧ t.size ≤ z := by
  obtain ⟨n, y, ok, hp⟩ : ∃ n y ok, decV s a = (n, y, ok) := ⟨_, _, _, rfl⟩
  unfold unpT at h
  rw [hp] at h
  cases ok with
  | false => simp at h
  | true =>
    obtain ⟨h1, h2, h3, h4, h5⟩ := decV_bd hp
    by_cases hf : n ≤ s.size - a - y
    · simp only [Bool.true_and, Int.toNat_natCast, decide_eq_true_eq, hf, if_true, Prod.mk.injEq, and_true] at h
      obtain ⟨rfl, rfl⟩ := h
      refine ⟨by omega, by omega, ?_⟩
      rw [ByteArray.size_extract]
      omega
    · simp [hf] at h
theorem unpT_zero {s t : ByteArray} {a z : Nat} (h : unpT s a = (t, z, false)) : z = 0 := by
  unfold unpT at h
  split at h
  · cases h
  · injection h with h1 h2
    injection h2 with h2 _
    exact h2.symm
theorem rdFour_bd {s : ByteArray} {a v0 v1 v2 v3 b : Nat} (h : rdFour s a = some (v0, v1, v2, v3, b)) : a + 4 ≤ b ∧ b ≤ s.size := by
  obtain ⟨n1, z1, ok1, h1⟩ : ∃ n1 z1 ok1, decV s a = (n1, z1, ok1) := ⟨_, _, _, rfl⟩
  cases ok1 with
  | false => rw [rdFour_1 h1] at h; cases h
  | true =>
  obtain ⟨n2, z2, ok2, h2⟩ : ∃ n2 z2 ok2, decV s (a + z1 : Nat) = (n2, z2, ok2) := ⟨_, _, _, rfl⟩
  cases ok2 with
  | false => rw [rdFour_2 h1 h2] at h; cases h
  | true =>
  obtain ⟨n3, z3, ok3, h3⟩ : ∃ n3 z3 ok3, decV s (a + z1 + z2 : Nat) = (n3, z3, ok3) := ⟨_, _, _, rfl⟩
  cases ok3 with
  | false => rw [rdFour_3 h1 h2 h3] at h; cases h
  | true =>
  obtain ⟨n4, z4, ok4, h4⟩ : ∃ n4 z4 ok4, decV s (a + z1 + z2 + z3 : Nat) = (n4, z4, ok4) := ⟨_, _, _, rfl⟩
  cases ok4 with
  | false => rw [rdFour_4 h1 h2 h3 h4] at h; cases h
  | true =>
  rw [rdFour_ok h1 h2 h3 h4] at h
  simp only [Option.some.injEq, Prod.mk.injEq] at h
  have b1 := decV_bd h1
  have b2 := decV_bd h2
  have b3 := decV_bd h3
  have b4 := decV_bd h4
  omega
theorem rdNodes_len {s : ByteArray} {ns : List ByteArray} : ∀ {n a : Nat} {p q : DProfile}, a ≤ s.size → rdNodes s ns n a p = some q → q.Stacks.Nodes.length + a ≤ p.Stacks.Nodes.length + s.size ∧ q.Counts.length + a ≤ p.Counts.length + s.size
  | 0, a, p, q, ha, h => by
    simp only [rdNodes, Option.some.injEq] at h
    subst h
    omega
  | n + 1, a, p, q, ha, h => by
    rw [rdNodes] at h
    split at h
    · rename_i v0 v1 v2 v3 b hb
      have h4 := rdFour_bd hb
      split at h
      · have := rdNodes_len h4.2 h
        simp only [pushP, List.length_append, List.length_cons, List.length_nil] at this
        omega
      · cases h
    · cases h
theorem rdNames_at {s : ByteArray} : ∀ {n a : Nat} {acc ns : List ByteArray} {b : Nat}, a ≤ s.size → rdNames s n a acc = some (ns, b) → b ≤ s.size
  | 0, a, acc, ns, b, ha, h => by
    simp only [rdNames, Option.some.injEq, Prod.mk.injEq] at h
    omega
  | n + 1, a, acc, ns, b, ha, h => by
    obtain ⟨t, z, ok, hu⟩ : ∃ t z ok, unpT s a = (t, z, ok) := ⟨_, _, _, rfl⟩
    cases ok with
    | false => rw [rdNames_bad hu] at h; cases h
    | true =>
      rw [rdNames_ok hu] at h
      exact rdNames_at (unpT_bd hu).2.1 h
theorem decP_len (s : ByteArray) : (decP s).1.Stacks.Nodes.length ≤ s.size ∧ (decP s).1.Counts.length ≤ s.size := by
  cases hr : rawP s with
  | none => rw [decP_none hr]; exact ⟨Nat.zero_le _, Nat.zero_le _⟩
  | some p =>
    by_cases he : encP p = s
    · rw [decP_eq hr he]
      unfold rawP at hr
      split at hr
      · rename_i h0
        obtain ⟨n, z, ok, hd⟩ : ∃ n z ok, decV s 0 = (n, z, ok) := ⟨_, _, _, rfl⟩
        rw [hd] at hr h0
        simp only at h0
        subst h0
        have hb := decV_bd hd
        simp only at hr
        split at hr
        · rename_i ns a hn
          have ha := rdNames_at (by omega) hn
          split at hr
          · rename_i h2
            obtain ⟨m, y, ok2, hd2⟩ : ∃ m y ok2, decV s a = (m, y, ok2) := ⟨_, _, _, rfl⟩
            rw [hd2] at hr h2
            simp only at h2
            subst h2
            have hb2 := decV_bd hd2
            simp only at hr
            have := rdNodes_len (by omega) hr
            simp only [nilP, List.length_nil] at this
            simp only
            omega
          · cases hr
        · cases hr
      · cases hr
    · rw [decP_ne hr he]; exact ⟨Nat.zero_le _, Nat.zero_le _⟩
end Go.Proofs.YtcomafmiclkmhaaGreatDoor
