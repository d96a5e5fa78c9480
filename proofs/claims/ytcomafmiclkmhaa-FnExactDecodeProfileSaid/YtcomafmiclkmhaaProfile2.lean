/-
  PROFILES, PART 2: copyProfile, AddStack of the program and of the reference.
-/
import Derived.Test.YtcomafmiclkmhaaProfile
import Derived.Test.YtcomafmiclkmhaaStacks3
import Derived.Test.YtcomafmiclkmhaaBox3
import Derived.Deep.RegionLaw
import Derived.Deep.LoopGhost
set_option linter.unusedVariables false
set_option linter.unusedSimpArgs false
namespace Go.Proofs.Ytcomafmiclkmhaa
open Go.RowKit
theorem elInt : Elem Try.prog 25 3 intT 8 := by
  obtain ⟨i0, hi, hz0, hz1, hz2⟩ := info_parts toIntS_info
  exact ⟨Try.underlying25, ⟨i0, _, hi, hz0, hz1, hz2, rfl⟩, by decide⟩
theorem profile_of {w W : World} {p : DProfile} {A0 A1 : Option Addr} {c0 c1 lo0 hi0 lo1 hi1 n1 : Nat} (h0 : FrN tStacks lo0 hi0 W [.slice A0 p.Stacks.Nodes.length c0] p.Stacks) (h1 : Fr2N (intT.sl 3) lo1 hi1 n1 W [.slice A1 p.Counts.length c1] p.Counts)
    (hd : (hi0 ≤ lo1 ∨ hi1 ≤ lo0) ∧ hi0 ≤ n1) (hw0 : w.heap.size ≤ lo0) (hw1 : w.heap.size ≤ lo1) (hw2 : w.heap.size ≤ n1) : Fresh tProfile w W [.slice A0 p.Stacks.Nodes.length c0, .slice A1 p.Counts.length c1] p := by
  obtain ⟨S0, hO0, hN0, hI0⟩ := h0
  obtain ⟨S1, hO1, hN1, hI1⟩ := h1
  refine ⟨_, tProfile_mkOd hO0 hO1, List.nodup_append.2 ⟨hN0, hN1, fun a ha b hb => ?_⟩, fun b hb => ?_⟩
  · have h1 := hI0 a ha
    have h2 := hI1 b hb
    omega
  · rcases List.mem_append.1 hb with hb | hb
    · have := hI0 b hb; omega
    · have := hI1 b hb; omega
def padTo (cs : List Int) (n : Nat) : List Int := cs ++ List.replicate (n - cs.length) 0
def addTo (p : DProfile) (t : DStacks) (k : Nat) (n : Int) : DProfile := ⟨t, (padTo p.Counts t.Nodes.length).set k (((padTo p.Counts t.Nodes.length)[k]?).getD 0 + n)⟩
def addStack (p : DProfile) (l : List DFrame) (n : Int) : DProfile × Bool :=
  if profileOk p && btw n 0 1000000000000 then
    if 0 ≤ (internStack p.Stacks l).2 then
      if profileOk (addTo p (internStack p.Stacks l).1 (internStack p.Stacks l).2.toNat n) then (addTo p (internStack p.Stacks l).1 (internStack p.Stacks l).2.toNat n, true) else (p, false)
    else (p, false)
  else (p, false)
theorem addStack_len (p : DProfile) (l : List DFrame) (n : Int) : (addStack p l n).1.Stacks.Nodes.length ≤ p.Stacks.Nodes.length + l.length ∧ (addStack p l n).1.Counts.length ≤ p.Counts.length + p.Stacks.Nodes.length + l.length := by
  have h := internStack_len p.Stacks l
  unfold addStack
  split
  · split
    · split
      · simp only [addTo, padTo, List.length_set, List.length_append, List.length_replicate]
        omega
      · simp only
        omega
    · simp only
      omega
  · simp only
    omega
theorem internL_bd (ns : List DNode) (a : Int) (l : List DFrame) (h : a < ns.length ∨ l ≠ []) : (internL ns a l).2 < (internL ns a l).1.length := by
  induction l generalizing ns a with
  | nil => rcases h with h | h; exact h; exact absurd rfl h
  | cons f fs ih =>
    simp only [internL]
    split
    · exact ih _ _ (.inl (by simp only [List.length_append, List.length_cons, List.length_nil]; omega))
    · exact ih _ _ (.inl child_lt.2)
theorem internStack_bd (t : DStacks) (l : List DFrame) (h : 0 ≤ (internStack t l).2) : (internStack t l).2 < (internStack t l).1.Nodes.length ∧ t.Nodes.length ≤ (internStack t l).1.Nodes.length := by
  unfold internStack at h ⊢
  split at h
  · rename_i hc
    rw [if_pos hc]
    simp only [Bool.and_eq_true, Bool.not_eq_true'] at hc
    exact ⟨internL_bd _ _ _ (.inr (by intro h; rw [h] at hc; simp at hc)), (internL_len _ _ _).1⟩
  · simp at h
theorem countsOk_elem {L : Int} {cs : List Int} (h : countsOk L cs = true) {j : Nat} {c : Int} (hc : cs[j]? = some c) : 0 ≤ c ∧ c ≤ L := by
  induction cs generalizing L j with
  | nil => simp at hc
  | cons x xs ih =>
    simp only [countsOk, Bool.and_eq_true, btw_iff] at h
    cases j with
    | zero => simp at hc; omega
    | succ j =>
      have := ih h.2 (j := j) (by simpa using hc)
      omega
theorem padTo_len (cs : List Int) (n : Nat) (h : cs.length ≤ n) : (padTo cs n).length = n := by
  simp [padTo]; omega
theorem padTo_elem {cs : List Int} {n : Nat} (h : countsOk 1000000000000 cs = true) {j : Nat} {c : Int} (hc : (padTo cs n)[j]? = some c) : 0 ≤ c ∧ c ≤ 1000000000000 := by
  unfold padTo at hc
  rw [List.getElem?_append] at hc
  split at hc
  · exact countsOk_elem h hc
  · have := List.mem_of_getElem? hc
    simp at this
    omega
def RetProfileBool (x : DProfile × Bool) (w : World) (r : Ending) (w' : World) : Prop := ∃ A0 c0 A1 c1, r = .returned (.tuple #[.agg #[.slice A0 x.1.Stacks.Nodes.length c0, .slice A1 x.1.Counts.length c1], .bool x.2]) ∧ Fresh tProfile w w' [.slice A0 x.1.Stacks.Nodes.length c0, .slice A1 x.1.Counts.length c1] x.1 ∧ Gro w w'
theorem ret_profile_bool {x : DProfile × Bool} {p : DProfile} {b : Bool} (hx : x = (p, b)) {w w' : World} {A0 A1 : Option Addr} {c0 c1 : Nat} (hF : Fresh tProfile w w' [.slice A0 p.Stacks.Nodes.length c0, .slice A1 p.Counts.length c1] p) (hG : Gro w w') : RetProfileBool x w (.returned (.tuple #[.agg #[.slice A0 p.Stacks.Nodes.length c0, .slice A1 p.Counts.length c1], .bool b])) w' := by
  subst hx
  exact ⟨A0, c0, A1, c1, rfl, hF, hG⟩
theorem rdProf {w : World} {B : Nat} {x : DProfile} {A0 A1 : Option Addr} {c0 c1 : Nat} (h : tProfile.R w B [.slice A0 x.Stacks.Nodes.length c0, .slice A1 x.Counts.length c1] x) : (tNode.sl 41).R w B [.slice A0 x.Stacks.Nodes.length c0] x.Stacks.Nodes ∧ (intT.sl 3).R w B [.slice A1 x.Counts.length c1] x.Counts := by
  obtain ⟨A0', c0', A1', c1', hc, f0, f1⟩ := tProfile_R h
  simp only [List.cons.injEq, Value.slice.injEq, true_and, and_true] at hc
  obtain ⟨⟨rfl, rfl⟩, rfl, rfl⟩ := hc
  exact ⟨f0, f1⟩
theorem prof_parts {w W : World} {x : DProfile} {A0 A1 : Option Addr} {c0 c1 : Nat} (h : Fresh tProfile w W [.slice A0 x.Stacks.Nodes.length c0, .slice A1 x.Counts.length c1] x) : FrN (intT.sl 3) w.heap.size W.heap.size W [.slice A1 x.Counts.length c1] x.Counts := by
  obtain ⟨S, h1, h2, h3⟩ := h
  obtain ⟨A0', c0', S0, A1', c1', S1, hc, rfl, f0, f1⟩ := tProfile_O h1
  simp only [List.cons.injEq, Value.slice.injEq, true_and, and_true] at hc
  obtain ⟨⟨rfl, rfl⟩, rfl, rfl⟩ := hc
  exact ⟨S1, f1, (List.nodup_append.1 h2).2.1, fun b hb => ⟨h3 b (List.mem_append_right _ hb), Ty.ltO _ f1 b hb⟩⟩
end Go.Proofs.Ytcomafmiclkmhaa
