/-
  TIMERLAW: when a timer fires, in plain terms.
-/
import Derived.Test.YtnapkbdnpjgnmaaFire
set_option linter.unusedVariables false
set_option linter.unusedSimpArgs false
namespace Go.Proofs.Ytnapkbdnpjgnmaa
open Go.RowKit
theorem tick_left {t : DTimer} (h : timerOk t = true) (h1 : 1 < t.Left) : tick t = (⟨t.Period, t.Spread, t.Left - 1, t.State⟩, false) := by
  unfold tick
  rw [if_pos h, if_pos h1]
theorem tick_fires {t : DTimer} (h : timerOk t = true) (h1 : t.Left = 1) : (tick t).2 = true ∧ timerOk (tick t).1 = true ∧ (tick t).1.Period = t.Period ∧ (tick t).1.Spread = t.Spread ∧ t.Period ≤ (tick t).1.Left ∧ (tick t).1.Left ≤ t.Period + max 0 (t.Spread - 1) := by
  have hf := timerOk_fit h
  obtain ⟨p1, p2, s1, s2, l1, l2, st1, st2⟩ := hf
  unfold tick
  rw [if_pos h, if_neg (by omega)]
  split
  · rename_i hs
    have hn := nextSt_bd t.State
    have h2 := Int.emod_nonneg (nextSt t.State / 64) (b := t.Spread) (by omega)
    have h3 := Int.emod_lt_of_pos (nextSt t.State / 64) hs
    refine ⟨rfl, timerOk_mk ⟨p1, p2, s1, s2, ?_, ?_, hn.1, hn.2⟩, rfl, rfl, ?_, ?_⟩
    all_goals simp only
    all_goals omega
  · refine ⟨rfl, timerOk_mk ⟨p1, p2, s1, s2, p1, by simp only; omega, st1, st2⟩, rfl, rfl, Int.le_refl _, by simp only; omega⟩
theorem tick_keeps {t : DTimer} (h : timerOk t = true) : timerOk (tick t).1 = true ∧ (tick t).1.Period = t.Period ∧ (tick t).1.Spread = t.Spread := by
  by_cases h1 : 1 < t.Left
  · have hf := timerOk_fit h
    obtain ⟨p1, p2, s1, s2, l1, l2, st1, st2⟩ := hf
    rw [tick_left h h1]
    exact ⟨timerOk_mk ⟨p1, p2, s1, s2, by simp only; omega, by simp only; omega, st1, st2⟩, rfl, rfl⟩
  · have hf := (timerOk_fit h).l1
    have := tick_fires h (by omega)
    exact ⟨this.2.1, this.2.2.1, this.2.2.2.1⟩
/-- the ticks at which a timer fires: the first one, and the gaps -/
def gaps (t : DTimer) (l : List Int) : Prop := ∀ (k : Nat) (x : Int), l[k]? = some x → (k = 0 → x = t.Left - 1) ∧ ∀ y, 0 < k → l[k - 1]? = some y → t.Period ≤ x - y ∧ x - y ≤ t.Period + max 0 (t.Spread - 1)
theorem fire_inv {t : DTimer} (h : timerOk t = true) : ∀ n : Nat, timerOk (fireL t n).2 = true ∧ (fireL t n).2.Period = t.Period ∧ (fireL t n).2.Spread = t.Spread ∧ gaps t (fireL t n).1 ∧
    ((fireL t n).1 = [] → (n : Int) + (fireL t n).2.Left = t.Left) ∧ (∀ y, (fireL t n).1.getLast? = some y → t.Period ≤ (n : Int) + (fireL t n).2.Left - 1 - y ∧ (n : Int) + (fireL t n).2.Left - 1 - y ≤ t.Period + max 0 (t.Spread - 1))
  | 0 => ⟨h, rfl, rfl, fun k x hx => by simp [fireL] at hx, fun _ => by simp [fireL], fun y hy => by simp [fireL] at hy⟩
  | n + 1 => by
    obtain ⟨h1, h2, h3, h4, h5, h6⟩ := fire_inv h n
    have hf := (timerOk_fit h1).l1
    simp only [fireL]
    by_cases hl : 1 < (fireL t n).2.Left
    · rw [tick_left h1 hl]
      have hk := tick_keeps h1
      rw [tick_left h1 hl] at hk
      simp only at hk
      simp only [Bool.false_eq_true, if_false]
      refine ⟨hk.1, h2, h3, h4, fun e => ?_, fun y hy => ?_⟩
      · have := h5 e
        push_cast
        omega
      · have := h6 y hy
        push_cast
        omega
    · obtain ⟨f1, f2, f3, f4, f5, f6⟩ := tick_fires h1 (by omega)
      rw [f1]
      simp only [if_true]
      rw [h2] at f5 f6
      rw [h3] at f6
      refine ⟨f2, by rw [f3, h2], by rw [f4, h3], ?_, fun e => by simp at e, fun y hy => ?_⟩
      · intro k x hx
        by_cases hk : k < (fireL t n).1.length
        · rw [List.getElem?_append_left hk] at hx
          have := h4 k x hx
          refine ⟨this.1, fun y hy hy2 => ?_⟩
          rw [List.getElem?_append_left (by omega)] at hy2
          exact this.2 y hy hy2
        · rw [List.getElem?_append_right (by omega)] at hx
          have hk0 : k = (fireL t n).1.length := by
            have := (List.getElem?_eq_some_iff.1 hx).1
            simp only [List.length_cons, List.length_nil] at this
            omega
          subst hk0
          rw [Nat.sub_self] at hx
          simp only [List.getElem?_cons_zero, Option.some.injEq] at hx
          subst hx
          refine ⟨fun e => ?_, fun y hy hy2 => ?_⟩
          · have := h5 (List.length_eq_zero_iff.1 e)
            omega
          · rw [List.getElem?_append_left (by omega)] at hy2
            have := h6 y (by rw [List.getLast?_eq_getElem?]; exact hy2)
            omega
      · simp only [List.getLast?_append, List.getLast?_singleton, Option.some_or, Option.some.injEq] at hy
        subst hy
        push_cast
        omega
theorem fire_some {t : DTimer} (h : timerOk t = true) (n : Nat) : ((fireL t n).1 = []) ↔ (n : Int) < t.Left := by
  have hi := fire_inv h n
  have hf := (timerOk_fit hi.1).l1
  constructor
  · intro e
    have := hi.2.2.2.2.1 e
    omega
  · intro e
    apply Decidable.byContradiction
    intro hne
    obtain ⟨x, l, hl⟩ : ∃ x l, (fireL t n).1 = x :: l := by
      cases hc : (fireL t n).1 with
      | nil => exact absurd hc hne
      | cons x l => exact ⟨x, l, rfl⟩
    have hg := (hi.2.2.2.1 0 x (by rw [hl]; rfl)).1 rfl
    have hb : ∀ m : Nat, ∀ y ∈ (fireL t m).1, y < (m : Int) := by
      intro m
      induction m with
      | zero => intro y hy; simp [fireL] at hy
      | succ m ih =>
        intro y hy
        simp only [fireL] at hy
        split at hy
        · rcases List.mem_append.1 hy with h1 | h1
          · have := ih y h1
            push_cast
            omega
          · simp only [List.mem_singleton] at h1
            subst h1
            push_cast
            omega
        · have := ih y hy
          push_cast
          omega
    have := hb n x (by rw [hl]; exact List.mem_cons_self)
    omega
theorem fire_bd (t : DTimer) : ∀ (n : Nat), ∀ y ∈ (fireL t n).1, 0 ≤ y ∧ y < (n : Int)
  | 0, y, hy => by simp [fireL] at hy
  | n + 1, y, hy => by
    simp only [fireL] at hy
    split at hy
    · rcases List.mem_append.1 hy with h1 | h1
      · have := fire_bd t n y h1
        push_cast
        omega
      · simp only [List.mem_singleton] at h1
        subst h1
        push_cast
        omega
    · have := fire_bd t n y hy
      push_cast
      omega
end Go.Proofs.Ytnapkbdnpjgnmaa
