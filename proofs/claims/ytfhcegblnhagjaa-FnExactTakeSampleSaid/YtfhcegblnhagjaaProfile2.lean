/-
  PROFILES, PART 2: copyProfile, AddStack of the program and of the reference.
-/
import Derived.Test.YtfhcegblnhagjaaProfile
import Derived.Test.YtfhcegblnhagjaaStacks3
import Derived.Test.YtfhcegblnhagjaaBox3
import Derived.Deep.RegionLaw
import Derived.Deep.LoopGhost
set_option linter.unusedVariables false
set_option linter.unusedSimpArgs false
namespace Go.Proofs.Ytfhcegblnhagjaa
open Go.RowKit
theorem elInt : Elem Try.prog 23 3 intT 8 := by
  obtain ⟨i0, hi, hz0, hz1, hz2⟩ := info_parts toIntS_info
  exact ⟨Try.underlying23, ⟨i0, _, hi, hz0, hz1, hz2, rfl⟩, by decide⟩
def padTo (cs : List Int) (n : Nat) : List Int := cs ++ List.replicate (n - cs.length) 0
def addTo (p : DProfile) (t : DStacks) (k : Nat) (n : Int) : DProfile := ⟨t, (padTo p.Counts t.Nodes.length).set k (((padTo p.Counts t.Nodes.length)[k]?).getD 0 + n)⟩
def addStack (p : DProfile) (l : List DFrame) (n : Int) : DProfile × Bool :=
  if profileOk p && btw n 0 1000000000000 then
    if 0 ≤ (internStack p.Stacks l).2 then
      if profileOk (addTo p (internStack p.Stacks l).1 (internStack p.Stacks l).2.toNat n) then (addTo p (internStack p.Stacks l).1 (internStack p.Stacks l).2.toNat n, true) else (p, false)
    else (p, false)
  else (p, false)
theorem addStack_len (p : DProfile) (l : List DFrame) (n : Int) : (addStack p l n).1.Stacks.Nodes.length ≤ p.Stacks.Nodes.length + l.length ∧ (addStack p l n).1.Counts.length ≤ p.Counts.length + p.Stacks.Nodes.length + l.length := by
  have h := internStack_len p.Stacks l
  unfold addStack
  split
  · split
    · split
      · simp only [addTo, padTo, List.length_set, List.length_append, List.length_replicate]
        omega
      · simp only
        omega
    · simp only
      omega
  · simp only
    omega
theorem internL_bd (ns : List DNode) (a : Int) (l : List DFrame) (h : a < ns.length ∨ l ≠ []) : (internL ns a l).2 < (internL ns a l).1.length := by
  induction l generalizing ns a with
  | nil => rcases h with h | h; exact h; exact absurd rfl h
  | cons f fs ih =>
    simp only [internL]
    split
    · exact ih _ _ (.inl (by simp only [List.length_append, List.length_cons, List.length_nil]; omega))
    · exact ih _ _ (.inl child_lt.2)
theorem internStack_bd (t : DStacks) (l : List DFrame) (h : 0 ≤ (internStack t l).2) : (internStack t l).2 < (internStack t l).1.Nodes.length ∧ t.Nodes.length ≤ (internStack t l).1.Nodes.length := by
  unfold internStack at h ⊢
  split at h
  · rename_i hc
    rw [if_pos hc]
    simp only [Bool.and_eq_true, Bool.not_eq_true'] at hc
    exact ⟨internL_bd _ _ _ (.inr (by intro h; rw [h] at hc; simp at hc)), (internL_len _ _ _).1⟩
  · simp at h
theorem countsOk_elem {L : Int} {cs : List Int} (h : countsOk L cs = true) {j : Nat} {c : Int} (hc : cs[j]? = some c) : 0 ≤ c ∧ c ≤ L := by
  induction cs generalizing L j with
  | nil => simp at hc
  | cons x xs ih =>
    simp only [countsOk, Bool.and_eq_true, btw_iff] at h
    cases j with
    | zero => simp at hc; omega
    | succ j =>
      have := ih h.2 (j := j) (by simpa using hc)
      omega
theorem padTo_len (cs : List Int) (n : Nat) (h : cs.length ≤ n) : (padTo cs n).length = n := by
  simp [padTo]; omega
theorem padTo_elem {cs : List Int} {n : Nat} (h : countsOk 1000000000000 cs = true) {j : Nat} {c : Int} (hc : (padTo cs n)[j]? = some c) : 0 ≤ c ∧ c ≤ 1000000000000 := by
  unfold padTo at hc
  rw [List.getElem?_append] at hc
  split at hc
  · exact countsOk_elem h hc
  · have := List.mem_of_getElem? hc
    simp at this
    omega
end Go.Proofs.Ytfhcegblnhagjaa
