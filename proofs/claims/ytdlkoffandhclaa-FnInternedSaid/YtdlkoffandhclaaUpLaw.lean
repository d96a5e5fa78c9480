/-
  UPLAW: nodes as paths, for a seat that has the stacks alone (the same laws as in EntLaw and PathLaw: never import both).
-/
import Derived.Test.YtdlkoffandhclaaStacks3
set_option linter.unusedVariables false
set_option linter.unusedSimpArgs false
namespace Go.Proofs.Ytdlkoffandhclaa
open Go.RowKit
theorem upL_acc (ns : List DNode) : ∀ (n : Nat) (k : Int) (acc : List DFrame), upL ns n k acc = upL ns n k [] ++ acc
  | 0, _, acc => by simp [upL]
  | n + 1, k, acc => by
    simp only [upL]
    split
    · simp
    · split
      · rename_i x _
        rw [upL_acc ns n x.Parent (x.Frame :: acc), upL_acc ns n x.Parent [x.Frame]]
        simp
      · simp
theorem stacksOk_par {t : DStacks} (h : stacksOk t = true) {j : Nat} {x : DNode} (hx : t.Nodes[j]? = some x) : -1 ≤ x.Parent ∧ x.Parent ≤ (j : Int) - 1 ∧ frameOk x.Frame = true ∧ ∀ y ∈ t.Nodes.take j, y ≠ x := by
  have hj := (List.getElem?_eq_some_iff.1 hx).1
  have := List.all_eq_true.1 h j (List.mem_range.2 hj)
  unfold nodeOk at this
  rw [hx] at this
  simp only [Bool.and_eq_true, btw_iff] at this
  exact ⟨this.1.1, this.1.2, this.2.1, fun y hy => by simpa using List.all_eq_true.1 this.2.2 y hy⟩
theorem upL_path {t : DStacks} (h : stacksOk t = true) : ∀ (n : Nat) (k : Nat) (x : DNode), t.Nodes[k]? = some x → k < n → ∃ p, upL t.Nodes n k [] = p ++ [x.Frame] ∧ (x.Parent = -1 → p = []) ∧ (∀ j : Nat, x.Parent = (j : Int) → ∀ m, j < m → p = upL t.Nodes m j [])
  | 0, k, x, _, hk => absurd hk (Nat.not_lt_zero _)
  | n + 1, k, x, hx, hk => by
    have hp := stacksOk_par h hx
    refine ⟨upL t.Nodes n x.Parent [], ?_, ?_, ?_⟩
    · rw [upL, if_neg (by omega), Int.toNat_natCast, hx]
      simp only
      rw [upL_acc]
    · intro e
      rw [e]
      cases n <;> simp [upL]
    · intro j e m hm
      rw [e]
      have hj : j < k := by omega
      have hjl := (List.getElem?_eq_some_iff.1 hx).1
      obtain ⟨y, hy⟩ : ∃ y, t.Nodes[j]? = some y := ⟨_, List.getElem?_eq_getElem (by omega)⟩
      obtain ⟨p1, e1, a1, b1⟩ := upL_path h n j y hy (by omega)
      rw [e1]
      have hq := stacksOk_par h hy
      cases m with
      | zero => exact absurd hm (Nat.not_lt_zero _)
      | succ m =>
        rw [upL, if_neg (by omega), Int.toNat_natCast, hy]
        simp only
        rw [upL_acc]
        congr 1
        by_cases hm1 : y.Parent = -1
        · rw [a1 hm1, hm1]
          cases m <;> simp [upL]
        · obtain ⟨i, hi⟩ : ∃ i : Nat, y.Parent = (i : Int) := ⟨y.Parent.toNat, by omega⟩
          rw [hi]
          exact b1 i hi m (by omega)
theorem upL_inj {t : DStacks} (h : stacksOk t = true) : ∀ (i j : Nat) (x y : DNode), t.Nodes[i]? = some x → t.Nodes[j]? = some y → upL t.Nodes t.Nodes.length i [] = upL t.Nodes t.Nodes.length j [] → i = j := by
  intro i
  induction i using Nat.strongRecOn with
  | _ i ih =>
    intro j x y hx hy he
    have hil := (List.getElem?_eq_some_iff.1 hx).1
    have hjl := (List.getElem?_eq_some_iff.1 hy).1
    obtain ⟨p, e1, a1, b1⟩ := upL_path h _ i x hx hil
    obtain ⟨q, e2, a2, b2⟩ := upL_path h _ j y hy hjl
    have hpx := stacksOk_par h hx
    have hpy := stacksOk_par h hy
    rw [e1, e2] at he
    have hsp := List.append_inj' he rfl
    simp only [List.cons.injEq, and_true] at hsp
    obtain ⟨hpq, hfr⟩ := hsp
    have hne : ∀ (k : Nat) (z : DNode), t.Nodes[k]? = some z → upL t.Nodes t.Nodes.length k [] ≠ [] := by
      intro k z hz
      obtain ⟨p, e, _⟩ := upL_path h _ k z hz (List.getElem?_eq_some_iff.1 hz).1
      rw [e]
      simp
    have hpar : x.Parent = y.Parent := by
      by_cases h1 : x.Parent = -1
      · by_cases h2 : y.Parent = -1
        · rw [h1, h2]
        · exfalso
          obtain ⟨k, hk⟩ : ∃ k : Nat, y.Parent = (k : Int) := ⟨y.Parent.toNat, by omega⟩
          have := b2 k hk t.Nodes.length (by omega)
          rw [a1 h1] at hpq
          exact hne k _ (List.getElem?_eq_getElem (by omega)) (by rw [← this, ← hpq])
      · obtain ⟨k1, hk1⟩ : ∃ k : Nat, x.Parent = (k : Int) := ⟨x.Parent.toNat, by omega⟩
        by_cases h2 : y.Parent = -1
        · exfalso
          have := b1 k1 hk1 t.Nodes.length (by omega)
          rw [a2 h2] at hpq
          exact hne k1 _ (List.getElem?_eq_getElem (by omega)) (by rw [← this, hpq])
        · obtain ⟨k2, hk2⟩ : ∃ k : Nat, y.Parent = (k : Int) := ⟨y.Parent.toNat, by omega⟩
          have := ih k1 (by omega) k2 _ _ (List.getElem?_eq_getElem (by omega)) (List.getElem?_eq_getElem (by omega)) (by rw [← b1 k1 hk1 t.Nodes.length (by omega), ← b2 k2 hk2 t.Nodes.length (by omega), hpq])
          rw [hk1, hk2, this]
    have hxy : x = y := by
      cases x; cases y
      simp only at hpar hfr
      rw [hpar, hfr]
    rcases Nat.lt_trichotomy i j with hlt | rfl | hlt
    · exact absurd hxy (hpy.2.2.2 x (List.mem_of_getElem? (i := i) (by rw [List.getElem?_take, if_pos hlt]; exact hx)))
    · rfl
    · exact absurd hxy.symm (hpx.2.2.2 y (List.mem_of_getElem? (i := j) (by rw [List.getElem?_take, if_pos hlt]; exact hy)))
theorem upL_all {t : DStacks} (h : stacksOk t = true) : ∀ (n : Nat) (k : Int) (acc : List DFrame), k < t.Nodes.length → acc.all frameOk = true → (upL t.Nodes n k acc).all frameOk = true
  | 0, _, acc, _, ha => by simpa [upL] using ha
  | n + 1, k, acc, hk, ha => by
    simp only [upL]
    split
    · exact ha
    · split
      · rename_i x hx
        have := stacksOk_par h hx
        exact upL_all h n _ _ (by omega) (by rw [List.all_cons, this.2.2.1, ha]; rfl)
      · exact ha
theorem stackAt_eq {t : DStacks} (h : stacksOk t = true) {k : Nat} (hk : k < t.Nodes.length) : stackAt t k = upL t.Nodes t.Nodes.length k [] := by
  unfold stackAt
  rw [h, btw_mk (by omega) (by omega)]
  rfl
/-- the path to a node -/
def path (ns : List DNode) (k : Nat) : List DFrame := upL ns (k + 1) k []
def pathI (ns : List DNode) (a : Int) : List DFrame := if a < 0 then [] else path ns a.toNat
theorem upL_neg (ns : List DNode) (n : Nat) (k : Int) (acc : List DFrame) (h : k < 0) : upL ns n k acc = acc := by
  cases n with
  | zero => rfl
  | succ n => rw [upL, if_pos h]
theorem upL_fuel {ns : List DNode} (h : stacksOk ⟨ns⟩ = true) : ∀ (k n : Nat), k < n → k < ns.length → upL ns n k [] = path ns k := by
  intro k
  induction k using Nat.strongRecOn with
  | _ k ih =>
    intro n hn hk
    obtain ⟨x, hx⟩ : ∃ x, ns[k]? = some x := ⟨_, List.getElem?_eq_getElem hk⟩
    have hp := stacksOk_par h hx
    cases n with
    | zero => exact absurd hn (Nat.not_lt_zero _)
    | succ n =>
      unfold path
      rw [upL, upL, if_neg (by omega), if_neg (by omega), Int.toNat_natCast, hx]
      simp only
      rw [upL_acc, upL_acc ns k]
      congr 1
      by_cases hm : x.Parent < 0
      · rw [upL_neg _ _ _ _ hm, upL_neg _ _ _ _ hm]
      · obtain ⟨j, hj⟩ : ∃ j : Nat, x.Parent = (j : Int) := ⟨x.Parent.toNat, by omega⟩
        rw [hj, ih j (by omega) n (by omega) (by omega), ih j (by omega) k (by omega) (by omega)]
theorem path_step {ns : List DNode} (h : stacksOk ⟨ns⟩ = true) {k : Nat} {x : DNode} (hx : ns[k]? = some x) : path ns k = pathI ns x.Parent ++ [x.Frame] := by
  have hp := stacksOk_par h hx
  have hk := (List.getElem?_eq_some_iff.1 hx).1
  unfold path pathI
  rw [upL, if_neg (by omega), Int.toNat_natCast, hx]
  simp only
  rw [upL_acc]
  congr 1
  by_cases hm : x.Parent < 0
  · rw [upL_neg _ _ _ _ hm, if_pos hm]
  · obtain ⟨j, hj⟩ : ∃ j : Nat, x.Parent = (j : Int) := ⟨x.Parent.toNat, by omega⟩
    rw [hj, if_neg (by omega), upL_fuel h j k (by omega) (by omega), Int.toNat_natCast]
theorem path_ne {ns : List DNode} (h : stacksOk ⟨ns⟩ = true) {k : Nat} (hk : k < ns.length) : path ns k ≠ [] := by
  rw [path_step h (List.getElem?_eq_getElem hk)]
  simp
theorem path_inj {ns : List DNode} (h : stacksOk ⟨ns⟩ = true) {i j : Nat} (hi : i < ns.length) (hj : j < ns.length) (he : path ns i = path ns j) : i = j := by
  refine upL_inj h i j _ _ (List.getElem?_eq_getElem hi) (List.getElem?_eq_getElem hj) ?_
  rw [upL_fuel h i _ hi hi, upL_fuel h j _ hj hj, he]
theorem pathI_nat (ns : List DNode) (k : Nat) : pathI ns (k : Int) = path ns k := by
  unfold pathI
  rw [if_neg (by omega), Int.toNat_natCast]
theorem pathI_neg (ns : List DNode) {a : Int} (h : a < 0) : pathI ns a = [] := by
  unfold pathI
  rw [if_pos h]
theorem pathI_inj {ns : List DNode} (h : stacksOk ⟨ns⟩ = true) {a b : Int} (ha : -1 ≤ a) (ha2 : a < ns.length) (hb : -1 ≤ b) (hb2 : b < ns.length) (he : pathI ns a = pathI ns b) : a = b := by
  by_cases h1 : a < 0
  · by_cases h2 : b < 0
    · omega
    · obtain ⟨j, rfl⟩ : ∃ j : Nat, b = (j : Int) := ⟨b.toNat, by omega⟩
      rw [pathI_neg _ h1, pathI_nat] at he
      exact absurd he.symm (path_ne h (by omega))
  · obtain ⟨i, rfl⟩ : ∃ j : Nat, a = (j : Int) := ⟨a.toNat, by omega⟩
    by_cases h2 : b < 0
    · rw [pathI_neg _ h2, pathI_nat] at he
      exact absurd he (path_ne h (by omega))
    · obtain ⟨j, rfl⟩ : ∃ j : Nat, b = (j : Int) := ⟨b.toNat, by omega⟩
      rw [pathI_nat, pathI_nat] at he
      rw [path_inj h (by omega) (by omega) he]
theorem upL_app {ns : List DNode} (h : stacksOk ⟨ns⟩ = true) (ms : List DNode) : ∀ (n : Nat) (k : Int) (acc : List DFrame), k < ns.length → upL (ns ++ ms) n k acc = upL ns n k acc
  | 0, _, _, _ => rfl
  | n + 1, k, acc, hk => by
    rw [upL, upL]
    by_cases hm : k < 0
    · rw [if_pos hm, if_pos hm]
    · rw [if_neg hm, if_neg hm, List.getElem?_append_left (by omega)]
      cases hx : ns[k.toNat]? with
      | none => rfl
      | some x =>
        have hp := stacksOk_par h hx
        simp only
        rw [upL_app h ms n _ _ (by omega)]
theorem path_app {ns : List DNode} (h : stacksOk ⟨ns⟩ = true) (ms : List DNode) {k : Nat} (hk : k < ns.length) : path (ns ++ ms) k = path ns k := upL_app h ms _ _ _ (by omega)
theorem pathI_app {ns : List DNode} (h : stacksOk ⟨ns⟩ = true) (ms : List DNode) {a : Int} (hk : a < ns.length) : pathI (ns ++ ms) a = pathI ns a := by
  unfold pathI
  split
  · rfl
  · exact path_app h ms (by omega)
theorem child_some {ns : List DNode} {a : Int} {f : DFrame} (h : ¬ childV ns a f < 0) : ns[(childV ns a f).toNat]? = some ⟨a, f⟩ := by
  unfold childV at h ⊢
  split at h
  · rename_i i hi
    have := List.findIdx?_eq_some_iff_getElem.1 hi
    obtain ⟨h1, h2, _⟩ := this
    simp only [Int.toNat_natCast]
    rw [List.getElem?_eq_getElem h1]
    simp only [isChild, Bool.and_eq_true, decide_eq_true_eq] at h2
    cases hx : ns[i]
    rw [hx] at h2
    simp only at h2
    rw [h2.1, h2.2]
  · omega
theorem child_none {ns : List DNode} {a : Int} {f : DFrame} (h : childV ns a f < 0) : (⟨a, f⟩ : DNode) ∉ ns := by
  unfold childV at h
  split at h
  · omega
  · rename_i hn
    intro hm
    have := List.findIdx?_eq_none_iff.1 hn _ hm
    simp [isChild] at this
theorem wf_app {ns : List DNode} (h : stacksOk ⟨ns⟩ = true) {a : Int} {f : DFrame} (h1 : -1 ≤ a) (h2 : a < ns.length) (hf : frameOk f = true) (hn : (⟨a, f⟩ : DNode) ∉ ns) : stacksOk ⟨ns ++ [⟨a, f⟩]⟩ = true := by
  unfold stacksOk
  simp only [List.length_append, List.length_cons, List.length_nil]
  refine range_snoc ?_ ?_
  · refine List.all_eq_true.2 fun k hk => ?_
    rw [List.mem_range] at hk
    have := List.all_eq_true.1 h k (List.mem_range.2 hk)
    unfold nodeOk at this ⊢
    simp only at this
    rw [List.getElem?_append_left hk, List.take_append_of_le_length (by omega)]
    exact this
  · unfold nodeOk
    rw [List.getElem?_append_right (Nat.le_refl _), Nat.sub_self]
    simp only [List.getElem?_cons_zero, Bool.and_eq_true]
    refine ⟨btw_mk h1 (by omega), hf, List.all_eq_true.2 fun y hy => ?_⟩
    rw [List.take_append_of_le_length (Nat.le_refl _), List.take_length] at hy
    simp only [ne_eq, decide_eq_true_eq]
    rintro rfl
    exact hn hy
theorem path_new {ns : List DNode} (h : stacksOk ⟨ns⟩ = true) {a : Int} {f : DFrame} (h2 : a < ns.length) (hw : stacksOk ⟨ns ++ [⟨a, f⟩]⟩ = true) : path (ns ++ [⟨a, f⟩]) ns.length = pathI ns a ++ [f] := by
  rw [path_step hw (x := ⟨a, f⟩) (by rw [List.getElem?_append_right (Nat.le_refl _), Nat.sub_self]; rfl), pathI_app h _ h2]
theorem intern_path : ∀ (l : List DFrame) (ns : List DNode) (a : Int), stacksOk ⟨ns⟩ = true → -1 ≤ a → a < ns.length → l.all frameOk = true →
    stacksOk ⟨(internL ns a l).1⟩ = true ∧ (∃ ms, (internL ns a l).1 = ns ++ ms) ∧ -1 ≤ (internL ns a l).2 ∧ (internL ns a l).2 < (internL ns a l).1.length ∧ pathI (internL ns a l).1 (internL ns a l).2 = pathI ns a ++ l ∧
      ∀ k, ns.length ≤ k → k < (internL ns a l).1.length → ∃ s, s <+: l ∧ path (internL ns a l).1 k = pathI ns a ++ s
  | [], ns, a, h, h1, h2, _ => by
    simp only [internL]
    exact ⟨h, ⟨[], by simp⟩, h1, h2, by simp, fun k hk hk2 => absurd hk2 (by omega)⟩
  | f :: fs, ns, a, h, h1, h2, ha => by
    simp only [List.all_cons, Bool.and_eq_true] at ha
    by_cases hc : childV ns a f < 0
    · have hw := wf_app h h1 h2 ha.1 (child_none hc)
      have hp := path_new h h2 hw
      obtain ⟨r1, ⟨ms, r2⟩, r3, r4, r5, r6⟩ := intern_path fs (ns ++ [⟨a, f⟩]) ns.length hw (by omega) (by simp; omega) ha.2
      rw [pathI_nat, hp] at r5 r6
      simp only [internL, if_pos hc]
      refine ⟨r1, ⟨⟨a, f⟩ :: ms, by rw [r2]; simp⟩, r3, r4, by rw [r5]; simp, fun k hk hk2 => ?_⟩
      by_cases hkn : k = ns.length
      · subst hkn
        refine ⟨[f], by simp, ?_⟩
        rw [r2, path_app hw _ (by simp), hp]
      · obtain ⟨s, h3, h4⟩ := r6 k (by simp; omega) hk2
        exact ⟨f :: s, by simpa using h3, by rw [h4]; simp⟩
    · have hx := child_some hc
      have hcl := child_lt (ns := ns) (p := a) (f := f)
      obtain ⟨r1, ⟨ms, r2⟩, r3, r4, r5, r6⟩ := intern_path fs ns (childV ns a f) h hcl.1 hcl.2 ha.2
      have hp : pathI ns (childV ns a f) = pathI ns a ++ [f] := by
        obtain ⟨j, hj⟩ : ∃ j : Nat, childV ns a f = (j : Int) := ⟨(childV ns a f).toNat, by omega⟩
        rw [hj] at hx ⊢
        rw [pathI_nat, path_step h (x := ⟨a, f⟩) (by simpa using hx)]
      rw [hp] at r5 r6
      simp only [internL, if_neg hc]
      refine ⟨r1, ⟨ms, r2⟩, r3, r4, by rw [r5]; simp, fun k hk hk2 => ?_⟩
      obtain ⟨s, h3, h4⟩ := r6 k hk hk2
      exact ⟨f :: s, by simpa using h3, by rw [h4]; simp⟩
/-- an ancestor -/
theorem path_anc {ns : List DNode} (h : stacksOk ⟨ns⟩ = true) : ∀ (k : Nat) (u v : List DFrame), k < ns.length → path ns k = u ++ v → u ≠ [] → ∃ j, j ≤ k ∧ path ns j = u := by
  intro k
  induction k using Nat.strongRecOn with
  | _ k ih =>
    intro u v hk he hu
    obtain ⟨x, hx⟩ : ∃ x, ns[k]? = some x := ⟨_, List.getElem?_eq_getElem hk⟩
    have hp := stacksOk_par h hx
    rcases List.eq_nil_or_concat v with rfl | ⟨v', y, rfl⟩
    · exact ⟨k, Nat.le_refl _, by simpa using he⟩
    · rw [path_step h hx, List.concat_eq_append, ← List.append_assoc] at he
      have h1 := (List.append_inj' he rfl).1
      by_cases hm : x.Parent < 0
      · rw [pathI_neg _ hm] at h1
        have := List.append_eq_nil_iff.1 h1.symm
        exact absurd this.1 hu
      · obtain ⟨j, hj⟩ : ∃ j : Nat, x.Parent = (j : Int) := ⟨x.Parent.toNat, by omega⟩
        rw [hj, pathI_nat] at h1
        obtain ⟨i, hi, h2⟩ := ih j (by omega) u v' (by omega) h1 hu
        exact ⟨i, by omega, h2⟩
theorem find_path {ns : List DNode} (h : stacksOk ⟨ns⟩ = true) : ∀ (l : List DFrame) (a : Int), -1 ≤ a → a < ns.length → 0 ≤ findL ns a l → pathI ns (findL ns a l) = pathI ns a ++ l
  | [], a, _, _, _ => by simp [findL]
  | f :: fs, a, h1, h2, h3 => by
    simp only [findL] at h3 ⊢
    by_cases hc : childV ns a f < 0
    · rw [if_pos hc] at h3; omega
    · rw [if_neg hc] at h3 ⊢
      have hx := child_some hc
      have hcl := child_lt (ns := ns) (p := a) (f := f)
      rw [find_path h fs _ hcl.1 hcl.2 h3]
      obtain ⟨j, hj⟩ : ∃ j : Nat, childV ns a f = (j : Int) := ⟨(childV ns a f).toNat, by omega⟩
      rw [hj] at hx ⊢
      rw [pathI_nat, path_step h (x := ⟨a, f⟩) (by simpa using hx)]
      simp
theorem find_conv {ns : List DNode} (h : stacksOk ⟨ns⟩ = true) : ∀ (l : List DFrame) (a : Int) (k : Nat), -1 ≤ a → a < ns.length → k < ns.length → path ns k = pathI ns a ++ l → l ≠ [] → findL ns a l = k
  | [], _, _, _, _, _, _, hl => absurd rfl hl
  | f :: fs, a, k, h1, h2, hk, he, _ => by
    obtain ⟨j, hj, hpj⟩ := path_anc h k (pathI ns a ++ [f]) fs hk (by rw [he]; simp) (by simp)
    obtain ⟨x, hx⟩ : ∃ x, ns[j]? = some x := ⟨_, List.getElem?_eq_getElem (by omega)⟩
    have hp := stacksOk_par h hx
    have hjl := (List.getElem?_eq_some_iff.1 hx).1
    have e1 := path_step h hx
    rw [hpj] at e1
    have e2 := List.append_inj' e1 rfl
    have e3 := pathI_inj h h1 h2 hp.1 (by omega) e2.1
    have e4 : x = ⟨a, f⟩ := by
      cases x
      simp only [List.cons.injEq, and_true] at e2 e3
      rw [e3, e2.2]
    subst e4
    have hc : ¬ childV ns a f < 0 := fun hc => child_none hc (List.mem_of_getElem? hx)
    have hcl := child_lt (ns := ns) (p := a) (f := f)
    obtain ⟨i, hi⟩ : ∃ j : Nat, childV ns a f = (j : Int) := ⟨(childV ns a f).toNat, by omega⟩
    have hxi := child_some hc
    rw [hi, Int.toNat_natCast] at hxi
    have e5 := path_step h hxi
    have e6 : i = j := path_inj h (by omega) hjl (by rw [e5, hpj])
    simp only [findL, if_neg hc]
    rw [hi, e6]
    cases fs with
    | nil =>
      simp only [findL]
      have := path_inj h hk hjl (by rw [he, hpj])
      omega
    | cons g gs => exact find_conv h (g :: gs) j k (by omega) (by omega) hk (by rw [he, pathI_nat, hpj]; simp) (by simp)
end Go.Proofs.Ytdlkoffandhclaa
