/-
  PATHLAW: nodes as paths: what interning, finding, adding and merging do to the paths and their counts, in plain terms.
-/
import Derived.Test.YtdlkoffandhclaaGreatDoorMerge
set_option linter.unusedVariables false
set_option linter.unusedSimpArgs false
namespace Go.Proofs.YtdlkoffandhclaaGreatDoor
open Go.RowKit
/-- the path to a node -/
def path (ns : List DNode) (k : Nat) : List DFrame := upL ns (k + 1) k []
def pathI (ns : List DNode) (a : Int) : List DFrame := if a < 0 then [] else path ns a.toNat
theorem upL_neg (ns : List DNode) (n : Nat) (k : Int) (acc : List DFrame) (h : k < 0) : upL ns n k acc = acc := by
  cases n with
  | zero => rfl
  | succ n => rw [upL, if_pos h]
theorem upL_fuel {ns : List DNode} (h : stacksOk ⟨ns⟩ = true) : ∀ (k n : Nat), k < n → k < ns.length → upL ns n k [] = path ns k := by
  intro k
  induction k using Nat.strongRecOn with
  | _ k ih =>
    intro n hn hk
    obtain ⟨x, hx⟩ : ∃ x, ns[k]? = some x := ⟨_, List.getElem?_eq_getElem hk⟩
    have hp := stacksOk_par h hx
    cases n with
    | zero => exact absurd hn (Nat.not_lt_zero _)
    | succ n =>
      unfold path
      rw [upL, upL, if_neg (by omega), if_neg (by omega), Int.toNat_natCast, hx]
      simp only
      rw [upL_acc, upL_acc ns k]
      congr 1
      by_cases hm : x.Parent < 0
      · rw [upL_neg _ _ _ _ hm, upL_neg _ _ _ _ hm]
      · obtain ⟨j, hj⟩ : ∃ j : Nat, x.Parent = (j : Int) := ⟨x.Parent.toNat, by omega⟩
        rw [hj, ih j (by omega) n (by omega) (by omega), ih j (by omega) k (by omega) (by omega)]
theorem path_step {ns : List DNode} (h : stacksOk ⟨ns⟩ = true) {k : Nat} {x : DNode} (hx : ns[k]? = some x) : path ns k = pathI ns x.Parent ++ [x.Frame] := by
  have hp := stacksOk_par h hx
  have hk := (List.getElem?_eq_some_iff.1 hx).1
  unfold path pathI
  rw [upL, if_neg (by omega), Int.toNat_natCast, hx]
  simp only
  rw [upL_acc]
  congr 1
  by_cases hm : x.Parent < 0
  · rw [upL_neg _ _ _ _ hm, if_pos hm]
  · obtain ⟨j, hj⟩ : ∃ j : Nat, x.Parent = (j : Int) := ⟨x.Parent.toNat, by omega⟩
    rw [hj, if_neg (by omega), upL_fuel h j k (by omega) (by omega), Int.toNat_natCast]
theorem path_ne {ns : List DNode} (h : stacksOk ⟨ns⟩ = true) {k : Nat} (hk : k < ns.length) : path ns k ≠ [] := by
  rw [path_step h (List.getElem?_eq_getElem hk)]
  simp
theorem path_inj {ns : List DNode} (h : stacksOk ⟨ns⟩ = true) {i j : Nat} (hi : i < ns.length) (hj : j < ns.length) (he : path ns i = path ns j) : i = j := by
  refine upL_inj h i j _ _ (List.getElem?_eq_getElem hi) (List.getElem?_eq_getElem hj) ?_
  rw [upL_fuel h i _ hi hi, upL_fuel h j _ hj hj, he]
theorem pathI_nat (ns : List DNode) (k : Nat) : pathI ns (k : Int) = path ns k := by
  unfold pathI
  rw [if_neg (by omega), Int.toNat_natCast]
theorem pathI_neg (ns : List DNode) {a : Int} (h : a < 0) : pathI ns a = [] := by
  unfold pathI
  rw [if_pos h]
theorem pathI_inj {ns : List DNode} (h : stacksOk ⟨ns⟩ = true) {a b : Int} (ha : -1 ≤ a) (ha2 : a < ns.length) (hb : -1 ≤ b) (hb2 : b < ns.length) (he : pathI ns a = pathI ns b) : a = b := by
  by_cases h1 : a < 0
  · by_cases h2 : b < 0
    · omega
    · obtain ⟨j, rfl⟩ : ∃ j : Nat, b = (j : Int) := ⟨b.toNat, by omega⟩
      rw [pathI_neg _ h1, pathI_nat] at he
      exact absurd he.symm (path_ne h (by omega))
  · obtain ⟨i, rfl⟩ : ∃ j : Nat, a = (j : Int) := ⟨a.toNat, by omega⟩
    by_cases h2 : b < 0
    · rw [pathI_neg _ h2, pathI_nat] at he
      exact absurd he (path_ne h (by omega))
    · obtain ⟨j, rfl⟩ : ∃ j : Nat, b = (j : Int) := ⟨b.toNat, by omega⟩
      rw [pathI_nat, pathI_nat] at he
      rw [path_inj h (by omega) (by omega) he]
theorem upL_app {ns : List DNode} (h : stacksOk ⟨ns⟩ = true) (ms : List DNode) : ∀ (n : Nat) (k : Int) (acc : List DFrame), k < ns.length → upL (ns ++ ms) n k acc = upL ns n k acc
  | 0, _, _, _ => rfl
  | n + 1, k, acc, hk => by
    rw [upL, upL]
    by_cases hm : k < 0
    · rw [if_pos hm, if_pos hm]
    · rw [if_neg hm, if_neg hm, List.getElem?_append_left (by omega)]
      cases hx : ns[k.toNat]? with
      | none => rfl
      | some x =>
        have hp := stacksOk_par h hx
        simp only
        rw [upL_app h ms n _ _ (by omega)]
theorem path_app {ns : List DNode} (h : stacksOk ⟨ns⟩ = true) (ms : List DNode) {k : Nat} (hk : k < ns.length) : path (ns ++ ms) k = path ns k := upL_app h ms _ _ _ (by omega)
theorem pathI_app {ns : List DNode} (h : stacksOk ⟨ns⟩ = true) (ms : List DNode) {a : Int} (hk : a < ns.length) : pathI (ns ++ ms) a = pathI ns a := by
  unfold pathI
  split
  · rfl
  · exact path_app h ms (by omega)
theorem child_some {ns : List DNode} {a : Int} {f : DFrame} (h : ¬ childV ns a f < 0) : ns[(childV ns a f).toNat]? = some ⟨a, f⟩ := by
  unfold childV at h ⊢
  split at h
  · rename_i i hi
    have := List.findIdx?_eq_some_iff_getElem.1 hi
    obtain ⟨h1, h2, _⟩ := this
    simp only [Int.toNat_natCast]
    rw [List.getElem?_eq_getElem h1]
    simp only [isChild, Bool.and_eq_true, decide_eq_true_eq] at h2
    cases hx : ns[i]
    rw [hx] at h2
    simp only at h2
    rw [h2.1, h2.2]
  · omega
theorem child_none {ns : List DNode} {a : Int} {f : DFrame} (h : childV ns a f < 0) : (⟨a, f⟩ : DNode) ∉ ns := by
  unfold childV at h
  split at h
  · omega
  · rename_i hn
    intro hm
    have := List.findIdx?_eq_none_iff.1 hn _ hm
    simp [isChild] at this
theorem wf_app {ns : List DNode} (h : stacksOk ⟨ns⟩ = true) {a : Int} {f : DFrame} (h1 : -1 ≤ a) (h2 : a < ns.length) (hf : frameOk f = true) (hn : (⟨a, f⟩ : DNode) ∉ ns) : stacksOk ⟨ns ++ [⟨a, f⟩]⟩ = true := by
  unfold stacksOk
  simp only [List.length_append, List.length_cons, List.length_nil]
  refine range_snoc ?_ ?_
  · refine List.all_eq_true.2 fun k hk => ?_
    rw [List.mem_range] at hk
    have := List.all_eq_true.1 h k (List.mem_range.2 hk)
    unfold nodeOk at this ⊢
    simp only at this
    rw [List.getElem?_append_left hk, List.take_append_of_le_length (by omega)]
    exact this
  · unfold nodeOk
    rw [List.getElem?_append_right (Nat.le_refl _), Nat.sub_self]
    simp only [List.getElem?_cons_zero, Bool.and_eq_true]
    refine ⟨btw_mk h1 (by omega), hf, List.all_eq_true.2 fun y hy => ?_⟩
    rw [List.take_append_of_le_length (Nat.le_refl _), List.take_length] at hy
    simp only [ne_eq, decide_eq_true_eq]
    rintro rfl
    exact hn hy
theorem path_new {ns : List DNode} (h : stacksOk ⟨ns⟩ = true) {a : Int} {f : DFrame} (h2 : a < ns.length) (hw : stacksOk ⟨ns ++ [⟨a, f⟩]⟩ = true) : path (ns ++ [⟨a, f⟩]) ns.length = pathI ns a ++ [f] := by
  rw [path_step hw (x := ⟨a, f⟩) (by rw [List.getElem?_append_right (Nat.le_refl _), Nat.sub_self]; rfl), pathI_app h _ h2]
theorem intern_path : ∀ (l : List DFrame) (ns : List DNode) (a : Int), stacksOk ⟨ns⟩ = true → -1 ≤ a → a < ns.length → l.all frameOk = true →
    stacksOk ⟨(internL ns a l).1⟩ = true ∧ (∃ ms, (internL ns a l).1 = ns ++ ms) ∧ -1 ≤ (internL ns a l).2 ∧ (internL ns a l).2 < (internL ns a l).1.length ∧ pathI (internL ns a l).1 (internL ns a l).2 = pathI ns a ++ l ∧
      ∀ k, ns.length ≤ k → k < (internL ns a l).1.length → ∃ s, s <+: l ∧ path (internL ns a l).1 k = pathI ns a ++ s
  | [], ns, a, h, h1, h2, _ => by
    simp only [internL]
    exact ⟨h, ⟨[], by simp⟩, h1, h2, by simp, fun k hk hk2 => absurd hk2 (by omega)⟩
  | f :: fs, ns, a, h, h1, h2, ha => by
    simp only [List.all_cons, Bool.and_eq_true] at ha
    by_cases hc : childV ns a f < 0
    · have hw := wf_app h h1 h2 ha.1 (child_none hc)
      have hp := path_new h h2 hw
      obtain ⟨r1, ⟨ms, r2⟩, r3, r4, r5, r6⟩ := intern_path fs (ns ++ [⟨a, f⟩]) ns.length hw (by omega) (by simp; omega) ha.2
      rw [pathI_nat, hp] at r5 r6
      simp only [internL, if_pos hc]
      refine ⟨r1, ⟨⟨a, f⟩ :: ms, by rw [r2]; simp⟩, r3, r4, by rw [r5]; simp, fun k hk hk2 => ?_⟩
      by_cases hkn : k = ns.length
      · subst hkn
        refine ⟨[f], by simp, ?_⟩
        rw [r2, path_app hw _ (by simp), hp]
      · obtain ⟨s, h3, h4⟩ := r6 k (by simp; omega) hk2
        exact ⟨f :: s, by simpa using h3, by rw [h4]; simp⟩
    · have hx := child_some hc
      have hcl := child_lt (ns := ns) (p := a) (f := f)
      obtain ⟨r1, ⟨ms, r2⟩, r3, r4, r5, r6⟩ := intern_path fs ns (childV ns a f) h hcl.1 hcl.2 ha.2
      have hp : pathI ns (childV ns a f) = pathI ns a ++ [f] := by
        obtain ⟨j, hj⟩ : ∃ j : Nat, childV ns a f = (j : Int) := ⟨(childV ns a f).toNat, by omega⟩
        rw [hj] at hx ⊢
        rw [pathI_nat, path_step h (x := ⟨a, f⟩) (by simpa using hx)]
      rw [hp] at r5 r6
      simp only [internL, if_neg hc]
      refine ⟨r1, ⟨ms, r2⟩, r3, r4, by rw [r5]; simp, fun k hk hk2 => ?_⟩
      obtain ⟨s, h3, h4⟩ := r6 k hk hk2
      exact ⟨f :: s, by simpa using h3, by rw [h4]; simp⟩
/-- an ancestor -/
theorem path_anc {ns : List DNode} (h : stacksOk ⟨ns⟩ = true) : ∀ (k : Nat) (u v : List DFrame), k < ns.length → path ns k = u ++ v → u ≠ [] → ∃ j, j ≤ k ∧ path ns j = u := by
  intro k
  induction k using Nat.strongRecOn with
  | _ k ih =>
    intro u v hk he hu
    obtain ⟨x, hx⟩ : ∃ x, ns[k]? = some x := ⟨_, List.getElem?_eq_getElem hk⟩
    have hp := stacksOk_par h hx
    rcases List.eq_nil_or_concat v with rfl | ⟨v', y, rfl⟩
    · exact ⟨k, Nat.le_refl _, by simpa using he⟩
    · rw [path_step h hx, List.concat_eq_append, ← List.append_assoc] at he
      have h1 := (List.append_inj' he rfl).1
      by_cases hm : x.Parent < 0
      · rw [pathI_neg _ hm] at h1
        have := List.append_eq_nil_iff.1 h1.symm
        exact absurd this.1 hu
      · obtain ⟨j, hj⟩ : ∃ j : Nat, x.Parent = (j : Int) := ⟨x.Parent.toNat, by omega⟩
        rw [hj, pathI_nat] at h1
        obtain ⟨i, hi, h2⟩ := ih j (by omega) u v' (by omega) h1 hu
        exact ⟨i, by omega, h2⟩
theorem find_path {ns : List DNode} (h : stacksOk ⟨ns⟩ = true) : ∀ (l : List DFrame) (a : Int), -1 ≤ a → a < ns.length → 0 ≤ findL ns a l → pathI ns (findL ns a l) = pathI ns a ++ l
  | [], a, _, _, _ => by simp [findL]
  | f :: fs, a, h1, h2, h3 => by
    simp only [findL] at h3 ⊢
    by_cases hc : childV ns a f < 0
    · rw [if_pos hc] at h3; omega
    · rw [if_neg hc] at h3 ⊢
      have hx := child_some hc
      have hcl := child_lt (ns := ns) (p := a) (f := f)
      rw [find_path h fs _ hcl.1 hcl.2 h3]
      obtain ⟨j, hj⟩ : ∃ j : Nat, childV ns a f = (j : Int) := ⟨(childV ns a f).toNat, by omega⟩
      rw [hj] at hx ⊢
      rw [pathI_nat, path_step h (x := ⟨a, f⟩) (by simpa using hx)]
      simp
theorem find_conv {ns : List DNode} (h : stacksOk ⟨ns⟩ = true) : ∀ (l : List DFrame) (a : Int) (k : Nat), -1 ≤ a → a < ns.length → k < ns.length → path ns k = pathI ns a ++ l → l ≠ [] → findL ns a l = k
  | [], _, _, _, _, _, _, hl => absurd rfl hl
  | f :: fs, a, k, h1, h2, hk, he, _ => by
    obtain ⟨j, hj, hpj⟩ := path_anc h k (pathI ns a ++ [f]) fs hk (by rw [he]; simp) (by simp)
    obtain ⟨x, hx⟩ : ∃ x, ns[j]? = some x := ⟨_, List.getElem?_eq_getElem (by omega)⟩
    have hp := stacksOk_par h hx
    have hjl := (List.getElem?_eq_some_iff.1 hx).1
    have e1 := path_step h hx
    rw [hpj] at e1
    have e2 := List.append_inj' e1 rfl
    have e3 := pathI_inj h h1 h2 hp.1 (by omega) e2.1
    have e4 : x = ⟨a, f⟩ := by
      cases x
      simp only [List.cons.injEq, and_true] at e2 e3
      rw [e3, e2.2]
    subst e4
    have hc : ¬ childV ns a f < 0 := fun hc => child_none hc (List.mem_of_getElem? hx)
    have hcl := child_lt (ns := ns) (p := a) (f := f)
    obtain ⟨i, hi⟩ : ∃ j : Nat, childV ns a f = (j : Int) := ⟨(childV ns a f).toNat, by omega⟩
    have hxi := child_some hc
    rw [hi, Int.toNat_natCast] at hxi
    have e5 := path_step h hxi
    have e6 : i = j := path_inj h (by omega) hjl (by rw [e5, hpj])
    simp only [findL, if_neg hc]
    rw [hi, e6]
    cases fs with
    | nil =>
      simp only [findL]
      have := path_inj h hk hjl (by rw [he, hpj])
      omega
    | cons g gs => exact find_conv h (g :: gs) j k (by omega) (by omega) hk (by rw [he, pathI_nat, hpj]; simp) (by simp)
theorem pOk_parts {p : DProfile} (h : profileOk p = true) : stacksOk ⟨p.Stacks.Nodes⟩ = true ∧ p.Counts.length = p.Stacks.Nodes.length ∧ countsOk 1000000000000 p.Counts = true := by
  simp only [profileOk, Bool.and_eq_true, decide_eq_true_eq] at h
  exact ⟨h.1, h.2.1, h.2.2⟩
theorem countOf_at {p : DProfile} (h : profileOk p = true) {k : Nat} (hk : k < p.Stacks.Nodes.length) : countOf p (path p.Stacks.Nodes k) = (p.Counts[k]?).getD 0 := by
  have h1 := pOk_parts h
  have hf := find_conv h1.1 (path p.Stacks.Nodes k) (-1) k (by omega) (by omega) hk (by rw [pathI_neg _ (by omega)]; simp) (path_ne h1.1 hk)
  have hs : findStack p.Stacks (path p.Stacks.Nodes k) = k := by
    unfold findStack
    rw [if_pos h1.1]
    exact hf
  unfold countOf
  rw [hs, if_pos ⟨by omega, h⟩, Int.toNat_natCast]
theorem countOf_none {p : DProfile} {m : List DFrame} (h : ∀ k, k < p.Stacks.Nodes.length → path p.Stacks.Nodes k ≠ m) : countOf p m = 0 := by
  unfold countOf
  split
  · rename_i hc
    have h1 := pOk_parts hc.2
    have h2 := hc.1
    unfold findStack at h2
    rw [if_pos h1.1] at h2
    have h3 := find_path h1.1 m (-1) (by omega) (by omega) h2
    have h4 := findL_bd p.Stacks.Nodes (-1) m (by omega) (by omega)
    rw [pathI_neg _ (show (-1 : Int) < 0 by omega), List.nil_append] at h3
    obtain ⟨j, hj⟩ : ∃ j : Nat, findL p.Stacks.Nodes (-1) m = (j : Int) := ⟨(findL p.Stacks.Nodes (-1) m).toNat, by omega⟩
    rw [hj] at h3 h4
    rw [pathI_nat] at h3
    exact absurd h3 (h j (by omega))
  · rfl
theorem padTo_get {cs : List Int} {n k : Nat} (h : cs.length ≤ n) (hk : k < n) : (padTo cs n)[k]? = some ((cs[k]?).getD 0) := by
  unfold padTo
  by_cases h1 : k < cs.length
  · rw [List.getElem?_append_left h1, List.getElem?_eq_getElem h1]
    rfl
  · rw [List.getElem?_append_right (by omega), List.getElem?_replicate, if_pos (by omega), List.getElem?_eq_none (by omega)]
    rfl
theorem padTo_len' {cs : List Int} {n : Nat} (h : cs.length ≤ n) : (padTo cs n).length = n := by
  unfold padTo
  simp
  omega
/-- what a stack that has been added leaves -/
theorem addStack_spec {p q : DProfile} {l : List DFrame} {n : Int} (h : addStack p l n = (q, true)) :
    profileOk p = true ∧ profileOk q = true ∧ 0 ≤ n ∧ n ≤ 1000000000000 ∧ l ≠ [] ∧ l.all frameOk = true ∧ (∃ ms, q.Stacks.Nodes = p.Stacks.Nodes ++ ms) ∧
      (∃ id, id < q.Stacks.Nodes.length ∧ path q.Stacks.Nodes id = l ∧ q.Counts = (padTo p.Counts q.Stacks.Nodes.length).set id (((p.Counts[id]?).getD 0) + n)) ∧
      (∀ k, p.Stacks.Nodes.length ≤ k → k < q.Stacks.Nodes.length → path q.Stacks.Nodes k <+: l) := by
  unfold addStack at h
  split at h
  · rename_i h1
    simp only [Bool.and_eq_true, btw_iff] at h1
    obtain ⟨hp, hn1, hn2⟩ := h1
    split at h
    · rename_i h2
      split at h
      · rename_i h3
        simp only [Prod.mk.injEq, and_true] at h
        subst h
        have hpp := pOk_parts hp
        by_cases hg : (stacksOk p.Stacks && (!l.isEmpty && l.all frameOk)) = true
        · have hi : internStack p.Stacks l = (⟨(internL p.Stacks.Nodes (-1) l).1⟩, (internL p.Stacks.Nodes (-1) l).2) := by
            unfold internStack
            rw [if_pos hg]
          simp only [Bool.and_eq_true, Bool.not_eq_true', List.isEmpty_eq_false_iff] at hg
          obtain ⟨r1, ⟨ms, r2⟩, r3, r4, r5, r6⟩ := intern_path l p.Stacks.Nodes (-1) hpp.1 (by omega) (by omega) hg.2.2
          rw [hi] at h2 h3 ⊢
          simp only at h2 h3 ⊢
          rw [pathI_neg p.Stacks.Nodes (show (-1 : Int) < 0 by omega), List.nil_append] at r5
          obtain ⟨id, hid⟩ : ∃ j : Nat, (internL p.Stacks.Nodes (-1) l).2 = (j : Int) := ⟨(internL p.Stacks.Nodes (-1) l).2.toNat, by omega⟩
          rw [hid] at r4 r5 h3 ⊢
          rw [pathI_nat] at r5
          have hle : p.Counts.length ≤ (internL p.Stacks.Nodes (-1) l).1.length := by rw [r2, List.length_append]; omega
          refine ⟨hp, h3, hn1, hn2, hg.2.1, hg.2.2, ⟨ms, r2⟩, ⟨id, by simpa [addTo] using (by omega : id < (internL p.Stacks.Nodes (-1) l).1.length), r5, ?_⟩, fun k hk hk2 => ?_⟩
          · unfold addTo
            simp only [Int.toNat_natCast]
            rw [padTo_get hle (by omega)]
            rfl
          · obtain ⟨s, h4, h5⟩ := r6 k hk hk2
            rw [pathI_neg p.Stacks.Nodes (show (-1 : Int) < 0 by omega), List.nil_append] at h5
            show path (internL p.Stacks.Nodes (-1) l).1 k <+: l
            rw [h5]
            exact h4
        · exfalso
          unfold internStack at h2
          rw [if_neg hg] at h2
          simp at h2
      · simp at h
    · simp at h
  · simp at h
theorem addStack_count {p q : DProfile} {l : List DFrame} {n : Int} (h : addStack p l n = (q, true)) (m : List DFrame) : countOf q m = countOf p m + if m = l then n else 0 := by
  obtain ⟨hp, hq, h1, h2, h3, h4, ⟨ms, h5⟩, ⟨id, h6, h7, h8⟩, h9⟩ := addStack_spec h
  have hpp := pOk_parts hp
  have hqq := pOk_parts hq
  have hle : p.Counts.length ≤ q.Stacks.Nodes.length := by rw [h5, List.length_append]; omega
  have hcq : ∀ k, k < q.Stacks.Nodes.length → (q.Counts[k]?).getD 0 = (p.Counts[k]?).getD 0 + if k = id then n else 0 := by
    intro k hk
    rw [h8, List.getElem?_set]
    by_cases hki : id = k
    · subst hki
      rw [if_pos rfl, if_pos (by rw [padTo_len' hle]; exact hk), if_pos rfl]
      rfl
    · rw [if_neg hki, padTo_get hle hk, if_neg (fun e => hki e.symm)]
      simp
  by_cases hm : ∃ k, k < q.Stacks.Nodes.length ∧ path q.Stacks.Nodes k = m
  · obtain ⟨k, hk, rfl⟩ := hm
    rw [countOf_at hq hk, hcq k hk]
    have hkl : (k = id) ↔ path q.Stacks.Nodes k = l := by
      constructor
      · rintro rfl; exact h7
      · intro e; exact path_inj hqq.1 hk h6 (by rw [e, h7])
    have hcp : countOf p (path q.Stacks.Nodes k) = (p.Counts[k]?).getD 0 := by
      by_cases hk2 : k < p.Stacks.Nodes.length
      · rw [h5, path_app hpp.1 _ hk2, countOf_at hp hk2]
      · rw [List.getElem?_eq_none (by omega)]
        refine countOf_none fun j hj e => ?_
        rw [← path_app hpp.1 ms hj, ← h5] at e
        have := path_inj hqq.1 (by rw [h5, List.length_append]; omega) hk e
        omega
    rw [hcp]
    simp only [hkl]
  · rw [countOf_none (fun k hk e => hm ⟨k, hk, e⟩)]
    have hml : m ≠ l := fun e => hm ⟨id, h6, by rw [h7, e]⟩
    rw [if_neg hml, countOf_none fun k hk e => hm ⟨k, by rw [h5, List.length_append]; omega, by rw [h5, path_app hpp.1 _ hk, e]⟩]
    rfl
theorem sum_set : ∀ (cs : List Int) (k : Nat) (x y : Int), cs[k]? = some x → (cs.set k y).sum = cs.sum + (y - x)
  | [], k, x, y, h => by simp at h
  | c :: cs, 0, x, y, h => by
    simp only [List.getElem?_cons_zero, Option.some.injEq] at h
    subst h
    simp only [List.set_cons_zero, List.sum_cons]
    omega
  | c :: cs, k + 1, x, y, h => by
    simp only [List.getElem?_cons_succ] at h
    simp only [List.set_cons_succ, List.sum_cons, sum_set cs k x y h]
    omega
theorem sum_zeros : ∀ n : Nat, (List.replicate n (0 : Int)).sum = 0
  | 0 => rfl
  | n + 1 => by rw [List.replicate_succ, List.sum_cons, sum_zeros n]; rfl
theorem addStack_total {p q : DProfile} {l : List DFrame} {n : Int} (h : addStack p l n = (q, true)) : totalOf q = totalOf p + n := by
  obtain ⟨hp, hq, h1, h2, h3, h4, ⟨ms, h5⟩, ⟨id, h6, h7, h8⟩, h9⟩ := addStack_spec h
  have hpp := pOk_parts hp
  have hle : p.Counts.length ≤ q.Stacks.Nodes.length := by rw [h5, List.length_append]; omega
  unfold totalOf
  rw [if_pos hp, if_pos hq, h8, sum_set _ _ _ _ (padTo_get hle h6)]
  unfold padTo
  rw [List.sum_append, sum_zeros]
  omega
theorem stackAt_path {p : DProfile} (h : profileOk p = true) {k : Nat} (hk : k < p.Stacks.Nodes.length) : stackAt p.Stacks k = path p.Stacks.Nodes k := by
  have h1 := (pOk_parts h).1
  rw [stackAt_eq h1 hk, upL_fuel h1 k _ hk hk]
theorem path_ok {ns : List DNode} (h : stacksOk ⟨ns⟩ = true) {k : Nat} (hk : k < ns.length) : (path ns k).all frameOk = true := upL_all h _ _ _ (by simp only; omega) rfl
/-- the entries of a profile: its paths with a count -/
theorem ents_iff {p : DProfile} (h : profileOk p = true) (e : DEntry) : e ∈ entriesOf p ↔ ∃ k, k < p.Stacks.Nodes.length ∧ e.Stack = fmtF (path p.Stacks.Nodes k) ∧ e.Count = countOf p (path p.Stacks.Nodes k) ∧ e.Count ≠ 0 := by
  have h1 := pOk_parts h
  unfold entriesOf
  rw [if_pos h, (foldl_insE_perm _ []).mem_iff, List.nil_append]
  unfold entTake
  rw [List.mem_filterMap]
  constructor
  · rintro ⟨k, hk, he⟩
    rw [List.mem_range] at hk
    refine ⟨k, by omega, ?_⟩
    unfold entAt at he
    rw [List.getElem?_eq_getElem hk] at he
    simp only at he
    split at he
    · cases he
    · rename_i hc
      simp only [Option.some.injEq] at he
      subst he
      refine ⟨by rw [stackAt_path h (by omega)], ?_, hc⟩
      rw [countOf_at h (by omega), List.getElem?_eq_getElem hk]
      rfl
  · rintro ⟨k, hk, h2, h3, h4⟩
    refine ⟨k, List.mem_range.2 (by omega), ?_⟩
    have hk2 : k < p.Counts.length := by omega
    rw [countOf_at h hk, List.getElem?_eq_getElem hk2] at h3
    simp only [Option.getD_some] at h3
    unfold entAt
    rw [List.getElem?_eq_getElem hk2]
    simp only
    rw [if_neg (by rw [← h3]; exact h4)]
    cases e
    simp only at h2 h3
    rw [h2, h3, stackAt_path h hk]
theorem countOf_pos {p : DProfile} {m : List DFrame} (h : countOf p m ≠ 0) : profileOk p = true ∧ ∃ k, k < p.Stacks.Nodes.length ∧ path p.Stacks.Nodes k = m := by
  refine ⟨?_, ?_⟩
  · apply Decidable.byContradiction
    intro hp
    apply h
    unfold countOf
    rw [if_neg (fun hc => hp hc.2)]
  · apply Decidable.byContradiction
    intro hn
    exact h (countOf_none fun k hk e => hn ⟨k, hk, e⟩)
theorem ents_le {p : DProfile} : (entriesOf p).Pairwise leE := by
  unfold entriesOf
  split
  · exact foldl_insE_sorted _ [] List.Pairwise.nil
  · exact List.Pairwise.nil
theorem ents_nodup2 {p : DProfile} (h : profileOk p = true) : ((entriesOf p).map fun e => bl e.Stack).Nodup := by
  have h1 := ents_nodup h p.Counts.length (Nat.le_refl _)
  unfold entriesOf
  rw [if_pos h]
  have h2 := (foldl_insE_perm (entTake p p.Counts.length) []).map (fun e => bl e.Stack)
  rw [List.nil_append] at h2
  exact h2.nodup_iff.2 h1
/-- profiles that count alike have the same entries -/
theorem nodup_of_map {α β : Type} {f : α → β} {l : List α} (h : (l.map f).Nodup) : l.Nodup := by
  induction l with
  | nil => exact List.nodup_nil
  | cons a l ih =>
    simp only [List.map_cons, List.nodup_cons] at h ⊢
    exact ⟨fun hm => h.1 (List.mem_map_of_mem hm), ih h.2⟩
theorem perm_of_mem {α : Type} : ∀ {l1 l2 : List α}, l1.Nodup → l2.Nodup → (∀ x, x ∈ l1 ↔ x ∈ l2) → l1.Perm l2
  | [], [], _, _, _ => List.Perm.refl _
  | [], b :: l2, _, _, h => absurd ((h b).2 List.mem_cons_self) List.not_mem_nil
  | a :: l1, l2, h1, h2, h => by
    rw [List.nodup_cons] at h1
    obtain ⟨s, t, rfl⟩ := List.append_of_mem ((h a).1 List.mem_cons_self)
    have h3 : (s ++ a :: t).Perm (a :: (s ++ t)) := List.perm_middle
    have h4 := h3.nodup_iff.1 h2
    rw [List.nodup_cons] at h4
    refine (List.Perm.cons a (perm_of_mem h1.2 h4.2 fun x => ?_)).trans h3.symm
    have h5 := h x
    constructor
    · intro hx
      have h6 := h3.mem_iff.1 (h5.1 (List.mem_cons_of_mem _ hx))
      rcases List.mem_cons.1 h6 with rfl | h6
      · exact absurd hx h1.1
      · exact h6
    · intro hx
      have h6 := h5.2 (h3.mem_iff.2 (List.mem_cons_of_mem _ hx))
      rcases List.mem_cons.1 h6 with rfl | h6
      · exact absurd hx h4.1
      · exact h6
theorem ents_ext {p q : DProfile} (hp : profileOk p = true) (hq : profileOk q = true) (h : ∀ m, countOf p m = countOf q m) : entriesOf p = entriesOf q := by
  refine sortedE_eq ents_le ents_le (perm_of_mem (nodup_of_map (ents_nodup2 hp)) (nodup_of_map (ents_nodup2 hq)) fun e => ?_) (ents_nodup2 hp)
  rw [ents_iff hp, ents_iff hq]
  constructor
  · rintro ⟨k, h1, h2, h3, h4⟩
    obtain ⟨_, j, h5, h6⟩ := countOf_pos (p := q) (m := path p.Stacks.Nodes k) (by rw [← h, ← h3]; exact h4)
    exact ⟨j, h5, by rw [h6]; exact h2, by rw [h6, ← h]; exact h3, h4⟩
  · rintro ⟨k, h1, h2, h3, h4⟩
    obtain ⟨_, j, h5, h6⟩ := countOf_pos (p := p) (m := path q.Stacks.Nodes k) (by rw [h, ← h3]; exact h4)
    exact ⟨j, h5, by rw [h6]; exact h2, by rw [h6, h]; exact h3, h4⟩
theorem sum_map_le {α : Type} (f : α → Nat) (c : Nat) (l : List α) (h : ∀ a ∈ l, f a ≤ c) : (l.map f).sum ≤ l.length * c := by
  induction l with
  | nil => simp
  | cons a l ih =>
    have h1 := h a List.mem_cons_self
    have h2 := ih fun x hx => h x (List.mem_cons_of_mem _ hx)
    simp only [List.map_cons, List.sum_cons, List.length_cons]
    rw [Nat.add_mul]
    omega
theorem len_of_mem {α : Type} [DecidableEq α] : ∀ {l1 l2 : List α}, l1.Nodup → (∀ x ∈ l1, x ∈ l2) → l1.length ≤ l2.length
  | [], _, _, _ => Nat.zero_le _
  | a :: l1, l2, h1, h => by
    rw [List.nodup_cons] at h1
    have ha := h a List.mem_cons_self
    have h2 := len_of_mem (l1 := l1) (l2 := l2.erase a) h1.2 fun x hx => (List.mem_erase_of_ne (by rintro rfl; exact h1.1 hx)).2 (h x (List.mem_cons_of_mem _ hx))
    rw [List.length_erase_of_mem ha] at h2
    have := List.length_pos_of_mem ha
    simp only [List.length_cons]
    omega
def paths (ns : List DNode) : List (List DFrame) := (List.range ns.length).map (path ns)
theorem paths_len (ns : List DNode) : (paths ns).length = ns.length := by simp [paths]
theorem mem_paths {ns : List DNode} {m : List DFrame} : m ∈ paths ns ↔ ∃ k, k < ns.length ∧ path ns k = m := by simp [paths]
theorem paths_nodup {ns : List DNode} (h : stacksOk ⟨ns⟩ = true) : (paths ns).Nodup := by
  unfold paths
  unfold List.Nodup
  rw [List.pairwise_map]
  refine (List.pairwise_lt_range (n := ns.length)).imp_of_mem fun {a b} ha hb hab he => ?_
  rw [List.mem_range] at ha hb
  have := path_inj h ha hb he
  omega
theorem stepP_some {p q : DProfile} {e : DEntry} (h : stepP p e = some q) : (parseR e.Stack).2 = true ∧ addStack p (parseR e.Stack).1 e.Count = (q, true) := by
  unfold stepP at h
  split at h
  · rename_i hc
    simp only [Bool.and_eq_true] at hc
    simp only [Option.some.injEq] at h
    refine ⟨hc.1, ?_⟩
    rw [← h]
    exact Prod.ext rfl hc.2
  · cases h
theorem profL_paths : ∀ {l : List DEntry} {p q : DProfile}, profileOk p = true → profL l p = some q → profileOk q = true ∧ ∀ m ∈ paths q.Stacks.Nodes, m ∈ paths p.Stacks.Nodes ∨ ∃ e ∈ l, m <+: (parseR e.Stack).1
  | [], p, q, hp, h => by
    simp only [profL, Option.some.injEq] at h
    subst h
    exact ⟨hp, fun m hm => .inl hm⟩
  | e :: l, p, q, hp, h => by
    rw [profL] at h
    split at h
    · rename_i r hr
      obtain ⟨h1, h2⟩ := stepP_some hr
      obtain ⟨_, hrr, _, _, _, _, ⟨ms, h3⟩, _, h4⟩ := addStack_spec h2
      obtain ⟨hq, h5⟩ := profL_paths hrr h
      refine ⟨hq, fun m hm => ?_⟩
      rcases h5 m hm with h6 | ⟨e', he', h6⟩
      · obtain ⟨k, hk, rfl⟩ := mem_paths.1 h6
        by_cases hkp : k < p.Stacks.Nodes.length
        · exact .inl (mem_paths.2 ⟨k, hkp, by rw [h3, path_app (pOk_parts hp).1 _ hkp]⟩)
        · exact .inr ⟨e, List.mem_cons_self, h4 k (by omega) hk⟩
      · exact .inr ⟨e', List.mem_cons_of_mem _ he', h6⟩
    · cases h
theorem ents_prefix {p : DProfile} {e : DEntry} {m : List DFrame} (he : e ∈ entriesOf p) (hm : m <+: (parseR e.Stack).1) (hn : m ≠ []) : m ∈ paths p.Stacks.Nodes := by
  by_cases hp : profileOk p = true
  · obtain ⟨k, hk, h2, _⟩ := (ents_iff hp e).1 he
    have h3 : (parseR e.Stack).1 = path p.Stacks.Nodes k ∨ (parseR e.Stack).1 = [] := by
      unfold parseR
      split
      · rename_i fs hf
        rw [h2] at hf
        exact .inl (parse_fmt hf)
      · exact .inr rfl
    rcases h3 with h3 | h3
    · rw [h3] at hm
      obtain ⟨v, hv⟩ := hm
      obtain ⟨j, hj, hpj⟩ := path_anc (pOk_parts hp).1 k m v hk hv.symm hn
      exact mem_paths.2 ⟨j, by omega, hpj⟩
    · rw [h3] at hm
      exact absurd (List.prefix_nil.1 hm) hn
  · unfold entriesOf at he
    rw [if_neg hp] at he
    cases he
/-- a profile of entries of profiles has no more nodes than these -/
theorem profR_nodes (p q : DProfile) {l : List DEntry} (hl : ∀ e ∈ l, e ∈ entriesOf p ∨ e ∈ entriesOf q) : (profR l).1.Stacks.Nodes.length ≤ p.Stacks.Nodes.length + q.Stacks.Nodes.length := by
  cases hr : profL l emptyP with
  | none =>
    rw [profR_bad hr]
    exact Nat.zero_le _
  | some r =>
    rw [profR_yes hr]
    obtain ⟨hok, hp⟩ := profL_paths emptyP_ok hr
    have h1 := paths_nodup (pOk_parts hok).1
    have h2 := len_of_mem (l2 := paths p.Stacks.Nodes ++ paths q.Stacks.Nodes) h1 fun m hm => ?_
    · rw [List.length_append, paths_len, paths_len, paths_len] at h2
      exact h2
    · have hn : m ≠ [] := by
        obtain ⟨k, hk, rfl⟩ := mem_paths.1 hm
        exact path_ne (pOk_parts hok).1 hk
      rcases hp m hm with h3 | ⟨e, he, h3⟩
      · obtain ⟨k, hk, _⟩ := mem_paths.1 h3
        exact absurd hk (Nat.not_lt_zero _)
      · rw [List.mem_append]
        rcases hl e he with h4 | h4
        · exact .inl (ents_prefix h4 h3 hn)
        · exact .inr (ents_prefix h4 h3 hn)
theorem mergeP_nodes (p q : DProfile) : (mergeP p q).1.Stacks.Nodes.length ≤ p.Stacks.Nodes.length + q.Stacks.Nodes.length := by
  unfold mergeP
  split
  · exact profR_nodes p q fun e he => List.mem_append.1 he
  · exact Nat.zero_le _
end Go.Proofs.YtdlkoffandhclaaGreatDoor
