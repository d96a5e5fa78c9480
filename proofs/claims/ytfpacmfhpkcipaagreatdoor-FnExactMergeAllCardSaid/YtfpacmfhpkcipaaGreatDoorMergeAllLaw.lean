/-
  MERGEALL: what MergeAll comes to, in plain terms; the nodes never become more than those of all.
-/
import Derived.Test.YtfpacmfhpkcipaaGreatDoorPathLaw
set_option linter.unusedVariables false
set_option linter.unusedSimpArgs false
namespace Go.Proofs.YtfpacmfhpkcipaaGreatDoor
open Go.RowKit
def mergeAllL : List DProfile → DProfile → Option DProfile
  | [], p => some p
  | x :: l, p => if (mergeP p x).2 then mergeAllL l (mergeP p x).1 else none
def mergeAllP (l : List DProfile) : DProfile × Bool := match mergeAllL l emptyP with
  | some p => (p, true)
  | none => (emptyP, false)
theorem mergeAllP_bad {l : List DProfile} (h : mergeAllL l emptyP = none) : mergeAllP l = (emptyP, false) := by unfold mergeAllP; rw [h]
theorem mergeAllP_yes {l : List DProfile} {p : DProfile} (h : mergeAllL l emptyP = some p) : mergeAllP l = (p, true) := by unfold mergeAllP; rw [h]
theorem mergeAllL_yes {l : List DProfile} {x p q : DProfile} (h : mergeP p x = (q, true)) : mergeAllL (x :: l) p = mergeAllL l q := by rw [mergeAllL, h]; rfl
theorem mergeAllL_no {l : List DProfile} {x p q : DProfile} (h : mergeP p x = (q, false)) : mergeAllL (x :: l) p = none := by rw [mergeAllL, h]; rfl
theorem szP_nodes (p : DProfile) : p.Stacks.Nodes.length ≤ szProfile p := by
  unfold szProfile szStacks szL
  omega
theorem mrg_bd {p x : DProfile} (hp : profileOk p = true) (h : 3 * p.Stacks.Nodes.length + szProfile x ≤ 1048576) : p.Stacks.Nodes.length ≤ 16777216 ∧ x.Stacks.Nodes.length ≤ 16777216 ∧ frSum (entriesOf p ++ entriesOf x) ≤ 500000000000 := by
  have h1 := szP_nodes x
  refine ⟨by omega, by omega, ?_⟩
  rw [frSum_app]
  have h2 := frSum_ents p
  have h3 := frSum_small (p := x) (by omega)
  have h4 := sq_le (n := p.Stacks.Nodes.length) (m := 350000) (by omega)
  omega
theorem mrg_ok {p x q : DProfile} (h : mergeP p x = (q, true)) : profileOk q = true ∧ 3 * q.Stacks.Nodes.length ≤ 3 * p.Stacks.Nodes.length + szProfile x := by
  have hn := mergeP_nodes p x
  rw [h] at hn
  simp only at hn
  unfold mergeP at h
  split at h
  · rename_i hk
    simp only [Bool.and_eq_true] at hk
    have h3 := prof_three hk.2
    refine ⟨?_, by omega⟩
    cases hr : profL (entriesOf p ++ entriesOf x) emptyP with
    | none => rw [profR_bad hr] at h; simp at h
    | some r =>
      rw [profR_yes hr] at h
      simp only [Prod.mk.injEq, and_true] at h
      rw [← h]
      exact (profL_ok emptyP_ok hr).1
  · simp at h
theorem mergeAllL_nodes : ∀ {l : List DProfile} {p q : DProfile}, mergeAllL l p = some q → profileOk p = true → profileOk q = true ∧ 3 * q.Stacks.Nodes.length ≤ 3 * p.Stacks.Nodes.length + (l.map szProfile).sum
  | [], p, q, h, hp => by
    simp only [mergeAllL, Option.some.injEq] at h
    subst h
    exact ⟨hp, by simp⟩
  | x :: l, p, q, h, hp => by
    obtain ⟨r, ok, hr⟩ : ∃ r ok, mergeP p x = (r, ok) := ⟨_, _, rfl⟩
    cases ok with
    | false => rw [mergeAllL_no hr] at h; cases h
    | true =>
      rw [mergeAllL_yes hr] at h
      have h1 := mrg_ok hr
      have h2 := mergeAllL_nodes h h1.1
      simp only [List.map_cons, List.sum_cons]
      exact ⟨h2.1, by omega⟩
theorem mergeAllP_len (l : List DProfile) : 3 * (mergeAllP l).1.Stacks.Nodes.length ≤ (l.map szProfile).sum ∧ (mergeAllP l).1.Counts.length = (mergeAllP l).1.Stacks.Nodes.length := by
  cases h : mergeAllL l emptyP with
  | none =>
    rw [mergeAllP_bad h]
    exact ⟨Nat.zero_le _, rfl⟩
  | some q =>
    rw [mergeAllP_yes h]
    have h1 := mergeAllL_nodes h emptyP_ok
    have h2 : emptyP.Stacks.Nodes.length = 0 := rfl
    exact ⟨by simp only; omega, pOk_len h1.1⟩
end Go.Proofs.YtfpacmfhpkcipaaGreatDoor
