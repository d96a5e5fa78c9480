/-
  INTERNLAW: interned stacks, in plain terms: their nodes' paths are the stacks.
-/
import Derived.Test.YtdlkoffandhclaaUpLaw
set_option linter.unusedVariables false
set_option linter.unusedSimpArgs false
namespace Go.Proofs.Ytdlkoffandhclaa
open Go.RowKit
/-- nodes after so many stacks; ids: the stacks' nodes -/
structure IC (l : List (List DFrame)) (k : Nat) (t : DStacks) (ids : List Int) : Prop where
  ok : stacksOk t = true
  len : ids.length = k
  few : t.Nodes.length ≤ 4 * k
  at_ : ∀ i s, i < k → l[i]? = some s → ∃ j : Nat, ids[i]? = some (j : Int) ∧ j < t.Nodes.length ∧ path t.Nodes j = s
theorem IC.start (l : List (List DFrame)) : IC l 0 ⟨[]⟩ [] := ⟨by rfl, rfl, by simp, fun i s h => absurd h (Nat.not_lt_zero _)⟩
theorem IC.step {l : List (List DFrame)} {k : Nat} {t : DStacks} {ids : List Int} {s : List DFrame} (h : IC l k t ids) (hs : l[k]? = some s) (hne : s ≠ []) (hok : s.all frameOk = true) (hlen : s.length ≤ 4) :
    ∃ (u : DStacks) (j : Nat), internStack t s = (u, ((j : Nat) : Int)) ∧ j < u.Nodes.length ∧ t.Nodes.length ≤ u.Nodes.length ∧ IC l (k + 1) u (ids ++ [(j : Int)]) := by
  obtain ⟨ns⟩ := t
  have h0 := h.ok
  obtain ⟨r1, ⟨ms, r2⟩, r3, r4, r5, _⟩ := intern_path s ns (-1) h0 (by omega) (by omega) hok
  have hl := internL_len ns (-1) s
  have hne2 : s.isEmpty = false := by cases s with
    | nil => exact absurd rfl hne
    | cons => rfl
  have h2 : 0 ≤ (internL ns (-1) s).2 := by
    rcases Int.lt_or_le (internL ns (-1) s).2 0 with h9 | h9
    · rw [pathI_neg _ h9, pathI_neg _ (by omega)] at r5
      exact absurd (by simpa using r5.symm) hne
    · exact h9
  obtain ⟨j, hj⟩ := Int.eq_ofNat_of_zero_le h2
  rw [hj, pathI_nat, pathI_neg _ (by omega), List.nil_append] at r5
  refine ⟨⟨(internL ns (-1) s).1⟩, j, by unfold internStack; rw [h0, hne2, hok]; simp only [Bool.not_false, Bool.and_self, if_true]; rw [hj], by rw [hj] at r4; simp only; omega, hl.1, ⟨r1, by rw [List.length_append, h.len]; rfl, by have := h.few; simp only at this ⊢; omega, fun i s' hi hs' => ?_⟩⟩
  by_cases hik : i < k
  · obtain ⟨q, h5, h6, h7⟩ := h.at_ i s' hik hs'
    refine ⟨q, by rw [List.getElem?_append_left (by rw [h.len]; exact hik)]; exact h5, ?_, ?_⟩
    · simp only at h6 ⊢; omega
    · simp only at h7 h6 ⊢
      rw [r2, path_app h0 _ h6, h7]
  · have : i = k := by omega
    subst this
    rw [hs] at hs'
    injection hs' with hs'
    subst hs'
    refine ⟨j, by rw [List.getElem?_append_right (by rw [h.len]; exact Nat.le_refl _), h.len, Nat.sub_self]; rfl, by rw [hj] at r4; simp only; omega, r5⟩
theorem IC.find {l : List (List DFrame)} {k : Nat} {t : DStacks} {ids : List Int} {i : Nat} {s : List DFrame} (h : IC l k t ids) (hi : i < k) (hs : l[i]? = some s) (hne : s ≠ []) :
    ∃ j : Nat, ids[i]? = some (j : Int) ∧ j < t.Nodes.length ∧ stackAt t j = s ∧ findStack t s = j ∧ 0 ≤ findStack t (s.take 1) := by
  obtain ⟨j, h1, h2, h3⟩ := h.at_ i s hi hs
  obtain ⟨ns⟩ := t
  have h0 := h.ok
  refine ⟨j, h1, h2, by rw [stackAt_eq h0 h2, ← h3]; exact upL_fuel h0 j _ h2 h2, ?_, ?_⟩
  · unfold findStack
    rw [if_pos h0]
    exact find_conv h0 s (-1) j (by omega) (by omega) h2 (by rw [pathI_neg _ (by omega), h3]; rfl) hne
  · obtain ⟨f, fs, rfl⟩ : ∃ f fs, s = f :: fs := by cases s with
      | nil => exact absurd rfl hne
      | cons f fs => exact ⟨f, fs, rfl⟩
    obtain ⟨q, hq, hpq⟩ := path_anc h0 j [f] fs h2 (by rw [h3]; rfl) (by simp)
    unfold findStack
    rw [if_pos h0]
    have := find_conv h0 [f] (-1) q (by omega) (by omega) (by simp only at h2; omega) (by rw [pathI_neg _ (by omega), hpq]; rfl) (by simp)
    rw [show (f :: fs).take 1 = [f] from by simp, this]
    omega
theorem IC.same {l : List (List DFrame)} {k : Nat} {t : DStacks} {ids : List Int} {i j : Nat} {s u : List DFrame} {a b : Int} (h : IC l k t ids) (hi : i < k) (hj : j < k) (hs : l[i]? = some s) (hu : l[j]? = some u) (ha : ids[i]? = some a) (hb : ids[j]? = some b) : (a == b) = decide (s = u) := by
  obtain ⟨p, h1, h2, h3⟩ := h.at_ i s hi hs
  obtain ⟨q, h4, h5, h6⟩ := h.at_ j u hj hu
  rw [h1] at ha
  rw [h4] at hb
  injection ha with ha
  injection hb with hb
  subst ha hb
  obtain ⟨ns⟩ := t
  rw [Bool.eq_iff_iff]
  simp only [beq_iff_eq, decide_eq_true_eq]
  constructor
  · intro h9
    have : p = q := by omega
    subst this
    rw [← h3, ← h6]
  · intro h9
    rw [path_inj h.ok h2 h5 (by rw [h3, h6, h9])]
theorem IC.bd {l : List (List DFrame)} {k : Nat} {t : DStacks} {ids : List Int} (h : IC l k t ids) (hk : k ≤ l.length) : ∀ a ∈ ids, 0 ≤ a ∧ a < t.Nodes.length := by
  intro a ha
  obtain ⟨i, hi, rfl⟩ := List.getElem_of_mem ha
  have hik : i < k := by rw [← h.len]; exact hi
  obtain ⟨j, h1, h2, _⟩ := h.at_ i l[i] hik (List.getElem?_eq_getElem (by omega))
  rw [List.getElem?_eq_getElem hi] at h1
  injection h1 with h1
  omega
theorem findStackN_i {t : DStacks} {l : List DFrame} {w : World} {A A2 : Option Addr} {c c2 n : Nat} {r : Int} (hN : n = l.length) (hr : findStack t l = r) (hx : (tNode.sl 65).R w w.heap.size [.slice A t.Nodes.length c] t.Nodes) (hl : (tFrame.sl 63).R w w.heap.size [.slice A2 n c2] l) (hn : t.Nodes.length ≤ 1099511627776) :
    Calls Try.prog 25 #[.agg #[.slice A t.Nodes.length c], .slice A2 n c2] w fun e w' => e = .returned (.int .i64 r) ∧ Gro w w' := by
  subst hN hr
  exact findStack_i hx hl hn
end Go.Proofs.Ytdlkoffandhclaa
