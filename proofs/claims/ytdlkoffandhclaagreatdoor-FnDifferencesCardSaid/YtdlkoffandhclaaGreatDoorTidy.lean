/-
  TIDY, MERGE: profiles made of the entries of profiles.
-/
import Derived.Test.YtdlkoffandhclaaGreatDoorProfOf
import Derived.Test.YtdlkoffandhclaaGreatDoorEnts
import Derived.Test.YtdlkoffandhclaaGreatDoorEnts2
import Derived.BigQuiet
import Derived.Deep.RegionHeld3
import Derived.Deep.RegionLaw
set_option linter.unusedVariables false
set_option linter.unusedSimpArgs false
namespace Go.Proofs.YtdlkoffandhclaaGreatDoor
open Go.RowKit
theorem names_sum {t : DStacks} (h : stacksOk t = true) : t.Nodes.length ≤ (t.Nodes.map szNode).sum := by
  have h1 : ∀ x ∈ t.Nodes, 1 ≤ szNode x := fun x hx => by
    obtain ⟨j, hj, rfl⟩ := List.getElem_of_mem hx
    have := (stacksOk_par h (List.getElem?_eq_getElem hj)).2.2.1
    simp only [frameOk, Bool.and_eq_true] at this
    have h3 := nameOk_size this.1
    exact h3.1
  have h2 : ∀ l : List DNode, (∀ x ∈ l, 1 ≤ szNode x) → l.length ≤ (l.map szNode).sum := by
    intro l
    induction l with
    | nil => intro _; simp
    | cons a l ih =>
      intro h
      have := ih fun x hx => h x (List.mem_cons_of_mem _ hx)
      have := h a List.mem_cons_self
      simp only [List.length_cons, List.map_cons, List.sum_cons]
      omega
  exact h2 _ h1
theorem prof_three {p : DProfile} (h : profileOk p = true) : 3 * p.Stacks.Nodes.length ≤ szProfile p := by
  have h1 := pOk_len h
  have h2 : stacksOk p.Stacks = true := by simp only [profileOk, Bool.and_eq_true] at h; exact h.1
  have h3 := names_sum h2
  unfold szProfile szStacks szL
  omega
theorem fmtF_none {l : List DFrame} (h : (fmtF l).size ≠ 0) : l.all frameOk = true ∧ l ≠ [] := by
  unfold fmtF at h
  split at h
  · rename_i k
    refine ⟨k, fun e => ?_⟩
    subst e
    exact h rfl
  · exact absurd rfl h
theorem parse_fmt {l fs : List DFrame} (h : parseF (fmtF l) = some fs) : fs = l := by
  obtain ⟨h1, h2⟩ := parseF_fmt h
  have k1 := fmtF_none h2
  have k2 := fmtF_none (l := fs) (by rw [h1]; exact h2)
  exact fmtF_inj k2.1 k1.1 k2.2 k1.2 h1
theorem frs_fmt (l : List DFrame) : (parseR (fmtF l)).1.length ≤ l.length := by
  unfold parseR
  split
  · rename_i fs h
    rw [parse_fmt h]
    exact Nat.le_refl _
  · simp
theorem entTake_mem {p : DProfile} {n : Nat} {e : DEntry} (h : e ∈ entTake p n) : ∃ k : Nat, e.Stack = fmtF (stackAt p.Stacks k) := by
  unfold entTake at h
  obtain ⟨k, _, hk⟩ := List.mem_filterMap.1 h
  unfold entAt at hk
  split at hk
  · split at hk
    · cases hk
    · simp only [Option.some.injEq] at hk
      subst hk
      exact ⟨k, rfl⟩
  · cases hk
theorem ents_mem {p : DProfile} {e : DEntry} (h : e ∈ entriesOf p) : ∃ k : Nat, e.Stack = fmtF (stackAt p.Stacks k) := by
  unfold entriesOf at h
  split at h
  · have := (foldl_insE_perm (entTake p p.Counts.length) []).mem_iff.1 h
    exact entTake_mem (by simpa using this)
  · cases h
theorem ents_sz {p : DProfile} {j : Nat} {e : DEntry} (h : (entriesOf p)[j]? = some e) : e.Stack.size ≤ 12 * p.Stacks.Nodes.length := by
  obtain ⟨k, hk⟩ := ents_mem (List.mem_of_getElem? h)
  have h1 := fmtF_size (stackAt p.Stacks k)
  have h2 := stackAt_len p.Stacks k
  rw [hk]
  omega
theorem frSum_ents (p : DProfile) : frSum (entriesOf p) ≤ p.Stacks.Nodes.length * p.Stacks.Nodes.length := by
  have h1 : ∀ l : List DEntry, (∀ e ∈ l, frs e ≤ p.Stacks.Nodes.length) → (l.map frs).sum ≤ l.length * p.Stacks.Nodes.length := by
    intro l
    induction l with
    | nil => intro _; simp
    | cons a l ih =>
      intro h
      have := ih fun x hx => h x (List.mem_cons_of_mem _ hx)
      have := h a List.mem_cons_self
      simp only [List.length_cons, List.map_cons, List.sum_cons]
      rw [Nat.add_mul]
      omega
  have h2 : (entriesOf p).length ≤ p.Stacks.Nodes.length := by
    by_cases h : profileOk p = true
    · have := entriesOf_len p
      rw [pOk_len h] at this
      exact this
    · unfold entriesOf
      rw [if_neg h]
      exact Nat.zero_le _
  refine Nat.le_trans (h1 (entriesOf p) (fun e he => ?_)) (Nat.mul_le_mul_right _ h2)
  obtain ⟨k, hk⟩ := ents_mem he
  unfold frs
  rw [hk]
  exact Nat.le_trans (frs_fmt _) (stackAt_len _ _)
theorem sq_le {n m : Nat} (h : n ≤ m) : n * n ≤ m * m := Nat.mul_le_mul h h
theorem frSum_app (a b : List DEntry) : frSum (a ++ b) = frSum a + frSum b := by simp [frSum]
theorem ents_bad {p : DProfile} (h : profileOk p = false) : entriesOf p = [] := by
  unfold entriesOf
  rw [h]
  rfl
theorem frSum_small {p : DProfile} (h : szProfile p ≤ 1048576) : frSum (entriesOf p) ≤ 122500000000 := by
  cases hp : profileOk p
  · rw [ents_bad hp]
    exact Nat.zero_le _
  · have h1 := prof_three hp
    have h3 := frSum_ents p
    have h4 := sq_le (n := p.Stacks.Nodes.length) (m := 350000) (by omega)
    omega
def tidyP (p : DProfile) : DProfile := (profR (entriesOf p)).1
theorem tidyP_bad {p : DProfile} (h : profileOk p = false) : tidyP p = emptyP := by
  unfold tidyP
  rw [ents_bad h]
  rfl
theorem tidyP_len {p : DProfile} (h : szProfile p ≤ 1048576) : (tidyP p).Stacks.Nodes.length ≤ 122500000000 ∧ (tidyP p).Counts.length ≤ 122500000000 := by
  cases hp : profileOk p
  · rw [tidyP_bad hp]
    exact ⟨Nat.zero_le _, Nat.zero_le _⟩
  · have h1 := prof_three hp
    have h2 := profR_len (entriesOf p)
    have h3 := frSum_ents p
    have h4 := sq_le (n := p.Stacks.Nodes.length) (m := 350000) (by omega)
    unfold tidyP
    omega
set_option maxRecDepth 100000 in
set_option maxHeartbeats 4000000 in
theorem tidy_i {p : DProfile} {m : Int} {w : World} {A0 A1 : Option Addr} {c0 c1 : Nat} (hx : (tNode.sl 92).R w w.heap.size [.slice A0 p.Stacks.Nodes.length c0] p.Stacks.Nodes) (hy : (intT.sl 3).R w w.heap.size [.slice A1 p.Counts.length c1] p.Counts) (hn : p.Stacks.Nodes.length ≤ 16777216) (hfr : frSum (entriesOf p) ≤ 500000000000) (hm : w.cell? ⟨0, 0, none⟩ = some (.int .i64 m)) :
    Calls Tryz.prog 30 #[.agg #[.slice A0 p.Stacks.Nodes.length c0, .slice A1 p.Counts.length c1]] w (RetProfile (tidyP p) w) := by
  have HM := Lib.hid hm
  obtain ⟨q, ok, hq⟩ : ∃ q ok, profR (entriesOf p) = (q, ok) := ⟨_, _, rfl⟩
  have HQ := Lib.hid hq
  have HT := Lib.hid (show tidyP p = q from by unfold tidyP; rw [hq])
  clear hm hq
  go_enter Tryz.func30, Tryz.ntmps30
  go_wp2_with (first
    | (go_at_call 17; go_must ((with_reducible refine (entriesOf_i (p := p) (Ty.up _ hx (by repeat (first | with_reducible exact Gro.refl _ | with_reducible exact Gro.refl_drew _ _ _ | with_reducible exact Gro.refl_drewN _ _ _ _ | assumption | with_reducible apply Gro.more | with_reducible apply Gro.alloc | with_reducible apply Gro.drew | with_reducible apply Gro.drewN))) (Ty.up _ hy (by repeat (first | with_reducible exact Gro.refl _ | with_reducible exact Gro.refl_drew _ _ _ | with_reducible exact Gro.refl_drewN _ _ _ _ | assumption | with_reducible apply Gro.more | with_reducible apply Gro.alloc | with_reducible apply Gro.drew | with_reducible apply Gro.drewN))) (by omega)).mono ?_)); rintro e w3 ⟨B3, b3, rfl, hF3, os3, d3, rfl⟩)
    | (go_at_call 18; go_must ((with_reducible refine (profOf_i (l := entriesOf p) (Ty.up _ hF3.read (by repeat (first | with_reducible exact Gro.refl _ | with_reducible exact Gro.refl_drew _ _ _ | with_reducible exact Gro.refl_drewN _ _ _ _ | assumption | with_reducible apply Gro.more | with_reducible apply Gro.alloc | with_reducible apply Gro.drew | with_reducible apply Gro.drewN))) (fun j e h => by have := ents_sz h; omega) hfr (Gro.cell (by repeat (first | with_reducible exact Gro.refl _ | with_reducible exact Gro.refl_drew _ _ _ | with_reducible exact Gro.refl_drewN _ _ _ _ | assumption | with_reducible apply Gro.more | with_reducible apply Gro.alloc | with_reducible apply Gro.drew | with_reducible apply Gro.drewN)) HM.out)).mono ?_)); rw [HQ.out]; rintro e w4 ⟨A3, c3, A4, c4, rfl, hF4, os4, d4, rfl⟩))
  refine bodyPost_ret (v := .agg #[.slice A3 q.Stacks.Nodes.length c3, .slice A4 q.Counts.length c4]) (by simp [results, Tryz.results30, go_sem]) rfl ?_
  rw [HT.out]
  refine ⟨A3, c3, A4, c4, rfl, ?_, (by repeat (first | with_reducible exact Gro.refl _ | with_reducible exact Gro.refl_drew _ _ _ | with_reducible exact Gro.refl_drewN _ _ _ _ | assumption | with_reducible apply Gro.more | with_reducible apply Gro.alloc | with_reducible apply Gro.drew | with_reducible apply Gro.drewN))⟩
  have h9 := hF4.gro ((Gro.refl _).alloc (.cells #[.slice A3 q.Stacks.Nodes.length c3, .slice A4 q.Counts.length c4] 33))
  simp only [gro_alloc, gro_drew_eq, gro_gro] at h9 ⊢
  refine FrN.fresh (FrN.same h9.frN (Same.base ?_ ?_)) ?_
  · simp
  · simp <;> omega
  · simp <;> omega
end Go.Proofs.YtdlkoffandhclaaGreatDoor
