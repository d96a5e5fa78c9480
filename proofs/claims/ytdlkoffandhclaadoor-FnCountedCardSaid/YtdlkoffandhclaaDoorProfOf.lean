/-
  PROFILEOF of the program and of the reference.
-/
import Derived.Test.YtdlkoffandhclaaDoorParse3
import Derived.Test.YtdlkoffandhclaaDoorProfile2
import Derived.Test.YtdlkoffandhclaaDoorEntLaw
import Derived.Test.YtdlkoffandhclaaDoorLsEntry
import Derived.BigQuiet
import Derived.Deep.RegionHeld3
set_option linter.unusedVariables false
set_option linter.unusedSimpArgs false
namespace Go.Proofs.YtdlkoffandhclaaDoor
open Go.RowKit
theorem gro_drew_eq (a : World) (os : Array Obj) (d : Nat) : gro a.drew os d = gro a os d := rfl
theorem Same.tail {a b : World} {X Y os : Array Obj} {d d' n m : Nat} (h : b.heap.size = a.heap.size) (hXY : Y.size = X.size) (hn : a.heap.size + X.size ≤ n) : Same n m (Go.Proofs.YtdlkoffandhclaaDoor.gro a (X ++ os) d) (Go.Proofs.YtdlkoffandhclaaDoor.gro b (Y ++ os) d') := by
  intro k hk _
  simp only [Go.Proofs.YtdlkoffandhclaaDoor.gro]
  rw [Array.getElem?_append_right (by omega), Array.getElem?_append_right (by omega), h, Array.getElem?_append_right (by omega), Array.getElem?_append_right (by omega), hXY]
def emptyP : DProfile := ⟨⟨[]⟩, []⟩
theorem emptyP_ok : profileOk emptyP = true := by decide
def stepP (p : DProfile) (e : DEntry) : Option DProfile := if (parseR e.Stack).2 && (addStack p (parseR e.Stack).1 e.Count).2 then some (addStack p (parseR e.Stack).1 e.Count).1 else none
def profL : List DEntry → DProfile → Option DProfile
  | [], p => some p
  | e :: l, p => match stepP p e with
    | some q => profL l q
    | none => none
def profR (l : List DEntry) : DProfile × Bool := match profL l emptyP with
  | some p => (p, true)
  | none => (emptyP, false)
def frs (e : DEntry) : Nat := (parseR e.Stack).1.length
def frSum (l : List DEntry) : Nat := (l.map frs).sum
theorem profL_some {e : DEntry} {l : List DEntry} {p q : DProfile} (h : stepP p e = some q) : profL (e :: l) p = profL l q := by rw [profL, h]
theorem profL_none {e : DEntry} {l : List DEntry} {p : DProfile} (h : stepP p e = none) : profL (e :: l) p = none := by rw [profL, h]
theorem profR_bad {l : List DEntry} (h : profL l emptyP = none) : profR l = (emptyP, false) := by unfold profR; rw [h]
theorem profR_yes {l : List DEntry} {p : DProfile} (h : profL l emptyP = some p) : profR l = (p, true) := by unfold profR; rw [h]
theorem addStack_ok {p : DProfile} {l : List DFrame} {n : Int} (h : (addStack p l n).2 = true) : profileOk (addStack p l n).1 = true := by
  unfold addStack at h ⊢
  split
  · split
    · split
      · rename_i h3
        exact h3
      · rename_i h1 h2 h3
        rw [if_pos h1, if_pos h2, if_neg h3] at h
        cases h
    · rename_i h1 h2
      rw [if_pos h1, if_neg h2] at h
      cases h
  · rename_i h1
    rw [if_neg h1] at h
    cases h
theorem stepP_ok {p q : DProfile} {e : DEntry} (h : stepP p e = some q) : profileOk q = true ∧ q.Stacks.Nodes.length ≤ p.Stacks.Nodes.length + frs e := by
  unfold stepP at h
  split at h
  · rename_i k
    simp only [Bool.and_eq_true] at k
    simp only [Option.some.injEq] at h
    subst h
    exact ⟨addStack_ok k.2, (addStack_len _ _ _).1⟩
  · cases h
theorem profL_ok : ∀ {l : List DEntry} {p q : DProfile}, profileOk p = true → profL l p = some q → profileOk q = true ∧ q.Stacks.Nodes.length ≤ p.Stacks.Nodes.length + frSum l
  | [], p, q, hp, h => by
    simp only [profL, Option.some.injEq] at h
    subst h
    exact ⟨hp, Nat.le_add_right _ _⟩
  | e :: l, p, q, hp, h => by
    rw [profL] at h
    split at h
    · rename_i r hr
      have h1 := stepP_ok hr
      have h2 := profL_ok h1.1 h
      simp only [frSum, List.map_cons, List.sum_cons] at h2 ⊢
      exact ⟨h2.1, by omega⟩
    · cases h
theorem profR_len (l : List DEntry) : (profR l).1.Stacks.Nodes.length ≤ frSum l ∧ (profR l).1.Counts.length ≤ frSum l := by
  unfold profR
  split
  · rename_i p h
    have h1 := profL_ok emptyP_ok h
    have h2 := pOk_len h1.1
    have h3 : emptyP.Stacks.Nodes.length = 0 := rfl
    simp only
    omega
  · exact ⟨Nat.zero_le _, Nat.zero_le _⟩
theorem frSum_le (l : List DEntry) : frSum l ≤ szL szEntry l := by
  have h : ∀ l : List DEntry, (l.map frs).sum ≤ l.length + (l.map szEntry).sum := by
    intro l
    induction l with
    | nil => simp
    | cons e l ih =>
      simp only [List.map_cons, List.sum_cons, List.length_cons]
      have h1 : frs e ≤ e.Stack.size + 1 := parseR_len e.Stack
      have h2 : szEntry e = e.Stack.size := rfl
      omega
  unfold szL frSum
  exact h l
theorem sz_elem {l : List DEntry} {j : Nat} {e : DEntry} (h : l[j]? = some e) : e.Stack.size ≤ szL szEntry l := by
  have h1 : ∀ (l : List DEntry), e ∈ l → e.Stack.size ≤ (l.map szEntry).sum := by
    intro l
    induction l with
    | nil => intro h; cases h
    | cons a l ih =>
      intro h
      simp only [List.map_cons, List.sum_cons]
      rcases List.mem_cons.1 h with rfl | h
      · have : szEntry e = e.Stack.size := rfl
        omega
      · have := ih h
        omega
  have := h1 l (List.mem_of_getElem? h)
  unfold szL
  omega
theorem fresh_emptyP (W0 W : World) : Fresh tProfile W0 W [.slice none 0 0, .slice none 0 0] emptyP :=
  tProfile_fresh (x := emptyP) (u0 := W0) (u1 := W0) (m0 := 0) (m1 := 0) (by
    obtain ⟨S, h1, h2, h3⟩ := fre_nil (T := tNode) (e := 66) W0 W
    exact ⟨S, h1, h2, h3⟩) (fre_nil W0 W) (Nat.le_refl _) (Nat.le_refl _) (by omega)
end Go.Proofs.YtdlkoffandhclaaDoor
