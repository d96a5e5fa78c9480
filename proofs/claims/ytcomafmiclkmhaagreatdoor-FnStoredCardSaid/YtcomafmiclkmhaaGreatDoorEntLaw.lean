/-
  ENTRIES, THE PLAIN LAWS: different nodes have different texts; a sort by text is a repeated insertion.
-/
import Derived.Test.YtcomafmiclkmhaaGreatDoorNames
import Derived.Test.YtcomafmiclkmhaaGreatDoorFmt
import Derived.Test.YtcomafmiclkmhaaGreatDoorTyEntry
set_option linter.unusedVariables false
set_option linter.unusedSimpArgs false
namespace Go.Proofs.YtcomafmiclkmhaaGreatDoor
open Go.RowKit
theorem cut_unique {c : UInt8} : ∀ {a b x y : List UInt8}, c ∉ a → c ∉ b → a ++ c :: x = b ++ c :: y → a = b ∧ x = y
  | [], [], x, y, _, _, h => by simpa using h
  | [], d :: b, x, y, _, hb, h => by
    simp only [List.nil_append, List.cons_append, List.cons.injEq] at h
    exact absurd (by rw [h.1]; exact List.mem_cons_self) hb
  | d :: a, [], x, y, ha, _, h => by
    simp only [List.nil_append, List.cons_append, List.cons.injEq] at h
    exact absurd (by rw [h.1]; exact List.mem_cons_self) ha
  | d :: a, e :: b, x, y, ha, hb, h => by
    simp only [List.cons_append, List.cons.injEq] at h
    have := cut_unique (fun k => ha (List.mem_cons_of_mem _ k)) (fun k => hb (List.mem_cons_of_mem _ k)) h.2
    exact ⟨by rw [h.1, this.1], this.2⟩
theorem dig_eq {a b : Nat} (ha : a < 10) (hb : b < 10) (h : UInt8.ofNat (48 + a) = UInt8.ofNat (48 + b)) : a = b := by
  have := congrArg UInt8.toNat h
  simp only [UInt8.toNat_ofNat'] at this
  omega
theorem dec_inj {n m : Nat} (hn : n < 100) (hm : m < 100) (h : Lib.decDigits n = Lib.decDigits m) : n = m := by
  by_cases h1 : n < 10
  · by_cases h2 : m < 10
    · rw [Lib.decDigits_one h1, Lib.decDigits_one h2] at h
      simp only [List.cons.injEq, and_true] at h
      exact dig_eq h1 h2 h
    · rw [Lib.decDigits_one h1, Lib.decDigits_two h2 hm] at h
      simp at h
  · by_cases h2 : m < 10
    · rw [Lib.decDigits_two h1 hn, Lib.decDigits_one h2] at h
      simp at h
    · rw [Lib.decDigits_two h1 hn, Lib.decDigits_two h2 hm] at h
      simp only [List.cons.injEq, and_true] at h
      have a := dig_eq (by omega) (by omega) h.1
      have b := dig_eq (by omega) (by omega) h.2
      omega
theorem dec_bytes {n : Nat} (hn : n < 100) : ∀ b ∈ Lib.decDigits n, 48 ≤ b.toNat ∧ b.toNat ≤ 57 := by
  intro b hb
  by_cases h1 : n < 10
  · rw [Lib.decDigits_one h1] at hb
    simp only [List.mem_singleton] at hb
    subst hb
    simp only [UInt8.toNat_ofNat']
    omega
  · rw [Lib.decDigits_two h1 hn] at hb
    simp only [List.mem_cons, List.mem_nil_iff, or_false] at hb
    rcases hb with rfl | rfl
    all_goals simp only [UInt8.toNat_ofNat']; omega
theorem frameOk_name {f : DFrame} (h : frameOk f = true) : ∀ b ∈ f.Name.data.toList, 97 ≤ b.toNat ∧ b.toNat ≤ 122 := by
  intro b hb
  simp only [frameOk, nameOk, Bool.and_eq_true] at h
  have := List.all_eq_true.1 h.1.1 b hb
  simp only [isLow, Bool.and_eq_true, decide_eq_true_eq] at this
  omega
theorem frameOk_line {f : DFrame} (h : frameOk f = true) : 0 ≤ f.Line ∧ f.Line ≤ 59 := by
  simp only [frameOk, Bool.and_eq_true] at h
  exact btw_iff.1 h.2
theorem joinF_cons2 (f g : DFrame) (l : List DFrame) : joinF (f :: g :: l) = frameB f ++ 59 :: joinF (g :: l) := by
  simp [joinF, Lib.join]
theorem joinF_one (f : DFrame) : joinF [f] = frameB f := by simp [joinF, Lib.join]
theorem frame_inj {f g : DFrame} {x y : List UInt8} (hf : frameOk f = true) (hg : frameOk g = true) (h : frameB f ++ x = frameB g ++ y) :
    f.Name = g.Name ∧ Lib.decDigits f.Line.toNat ++ x = Lib.decDigits g.Line.toNat ++ y := by
  unfold frameB at h
  rw [List.append_assoc, List.append_assoc, List.cons_append, List.cons_append] at h
  have n1 : (58 : UInt8) ∉ f.Name.data.toList := fun k => by have := frameOk_name hf _ k; simp at this
  have n2 : (58 : UInt8) ∉ g.Name.data.toList := fun k => by have := frameOk_name hg _ k; simp at this
  have := cut_unique n1 n2 h
  exact ⟨by cases hh : f.Name; cases hk : g.Name; rw [hh, hk] at this; simpa using this.1, this.2⟩
theorem no59 {f : DFrame} (hf : frameOk f = true) : (59 : UInt8) ∉ Lib.decDigits f.Line.toNat := fun k => by
  have a := frameOk_line hf
  have := dec_bytes (by omega) _ k
  simp at this
theorem frame_eq {f g : DFrame} (hf : frameOk f = true) (hg : frameOk g = true) (h1 : f.Name = g.Name) (h2 : Lib.decDigits f.Line.toNat = Lib.decDigits g.Line.toNat) : f = g := by
  have a := frameOk_line hf
  have b := frameOk_line hg
  have := dec_inj (by omega) (by omega) h2
  cases f; cases g
  simp only at h1 this a b ⊢
  rw [h1]
  congr 1
  omega
theorem joinF_inj : ∀ {l1 l2 : List DFrame}, l1.all frameOk = true → l2.all frameOk = true → l1 ≠ [] → l2 ≠ [] → joinF l1 = joinF l2 → l1 = l2
  | [], _, _, _, h, _, _ => absurd rfl h
  | _ :: _, [], _, _, _, h, _ => absurd rfl h
  | [f], [g], h1, h2, _, _, h => by
    simp only [List.all_cons, List.all_nil, Bool.and_true] at h1 h2
    rw [joinF_one, joinF_one] at h
    have := frame_inj (x := []) (y := []) h1 h2 (by simpa using h)
    rw [frame_eq h1 h2 this.1 (by simpa using this.2)]
  | [f], g :: g2 :: l, h1, h2, _, _, h => by
    simp only [List.all_cons, List.all_nil, Bool.and_true, Bool.and_eq_true] at h1 h2
    rw [joinF_one, joinF_cons2] at h
    have := (frame_inj (x := []) h1 h2.1 (by simpa using h)).2
    exact absurd (by rw [List.append_nil] at this; rw [this]; simp) (no59 h1)
  | f :: f2 :: l, [g], h1, h2, _, _, h => by
    simp only [List.all_cons, List.all_nil, Bool.and_true, Bool.and_eq_true] at h1 h2
    rw [joinF_one, joinF_cons2] at h
    have := (frame_inj (y := []) h1.1 h2 (by simpa using h)).2
    exact absurd (by rw [List.append_nil] at this; rw [← this]; simp) (no59 h2)
  | f :: f2 :: l1, g :: g2 :: l2, h1, h2, _, _, h => by
    rw [List.all_cons, Bool.and_eq_true] at h1 h2
    rw [joinF_cons2, joinF_cons2] at h
    have := frame_inj h1.1 h2.1 h
    have k := cut_unique (no59 h1.1) (no59 h2.1) this.2
    rw [frame_eq h1.1 h2.1 this.1 k.1, joinF_inj h1.2 h2.2 (by simp) (by simp) k.2]
theorem fmtF_inj {l1 l2 : List DFrame} (h1 : l1.all frameOk = true) (h2 : l2.all frameOk = true) (n1 : l1 ≠ []) (n2 : l2 ≠ []) (h : fmtF l1 = fmtF l2) : l1 = l2 := by
  unfold fmtF at h
  rw [if_pos h1, if_pos h2] at h
  exact joinF_inj h1 h2 n1 n2 (by simpa using h)
theorem upL_acc (ns : List DNode) : ∀ (n : Nat) (k : Int) (acc : List DFrame), upL ns n k acc = upL ns n k [] ++ acc
  | 0, _, acc => by simp [upL]
  | n + 1, k, acc => by
    simp only [upL]
    split
    · simp
    · split
      · rename_i x _
        rw [upL_acc ns n x.Parent (x.Frame :: acc), upL_acc ns n x.Parent [x.Frame]]
        simp
      · simp
theorem stacksOk_par {t : DStacks} (h : stacksOk t = true) {j : Nat} {x : DNode} (hx : t.Nodes[j]? = some x) : -1 ≤ x.Parent ∧ x.Parent ≤ (j : Int) - 1 ∧ frameOk x.Frame = true ∧ ∀ y ∈ t.Nodes.take j, y ≠ x := by
  have hj := (List.getElem?_eq_some_iff.1 hx).1
  have := List.all_eq_true.1 h j (List.mem_range.2 hj)
  unfold nodeOk at this
  rw [hx] at this
  simp only [Bool.and_eq_true, btw_iff] at this
  exact ⟨this.1.1, this.1.2, this.2.1, fun y hy => by simpa using List.all_eq_true.1 this.2.2 y hy⟩
/-- the path to a node: its parent's and its own frame -/
theorem upL_path {t : DStacks} (h : stacksOk t = true) : ∀ (n : Nat) (k : Nat) (x : DNode), t.Nodes[k]? = some x → k < n → ∃ p, upL t.Nodes n k [] = p ++ [x.Frame] ∧ (x.Parent = -1 → p = []) ∧ (∀ j : Nat, x.Parent = (j : Int) → ∀ m, j < m → p = upL t.Nodes m j [])
  | 0, k, x, _, hk => absurd hk (Nat.not_lt_zero _)
  | n + 1, k, x, hx, hk => by
    have hp := stacksOk_par h hx
    refine ⟨upL t.Nodes n x.Parent [], ?_, ?_, ?_⟩
    · rw [upL, if_neg (by omega), Int.toNat_natCast, hx]
      simp only
      rw [upL_acc]
    · intro e
      rw [e]
      cases n <;> simp [upL]
    · intro j e m hm
      rw [e]
      have hj : j < k := by omega
      have hjl := (List.getElem?_eq_some_iff.1 hx).1
      obtain ⟨y, hy⟩ : ∃ y, t.Nodes[j]? = some y := ⟨_, List.getElem?_eq_getElem (by omega)⟩
      obtain ⟨p1, e1, a1, b1⟩ := upL_path h n j y hy (by omega)
      rw [e1]
      have hq := stacksOk_par h hy
      cases m with
      | zero => exact absurd hm (Nat.not_lt_zero _)
      | succ m =>
        rw [upL, if_neg (by omega), Int.toNat_natCast, hy]
        simp only
        rw [upL_acc]
        congr 1
        by_cases hm1 : y.Parent = -1
        · rw [a1 hm1, hm1]
          cases m <;> simp [upL]
        · obtain ⟨i, hi⟩ : ∃ i : Nat, y.Parent = (i : Int) := ⟨y.Parent.toNat, by omega⟩
          rw [hi]
          exact b1 i hi m (by omega)
theorem upL_inj {t : DStacks} (h : stacksOk t = true) : ∀ (i j : Nat) (x y : DNode), t.Nodes[i]? = some x → t.Nodes[j]? = some y → upL t.Nodes t.Nodes.length i [] = upL t.Nodes t.Nodes.length j [] → i = j := by
  intro i
  induction i using Nat.strongRecOn with
  | _ i ih =>
    intro j x y hx hy he
    have hil := (List.getElem?_eq_some_iff.1 hx).1
    have hjl := (List.getElem?_eq_some_iff.1 hy).1
    obtain ⟨p, e1, a1, b1⟩ := upL_path h _ i x hx hil
    obtain ⟨q, e2, a2, b2⟩ := upL_path h _ j y hy hjl
    have hpx := stacksOk_par h hx
    have hpy := stacksOk_par h hy
    rw [e1, e2] at he
    have hsp := List.append_inj' he rfl
    simp only [List.cons.injEq, and_true] at hsp
    obtain ⟨hpq, hfr⟩ := hsp
    have hne : ∀ (k : Nat) (z : DNode), t.Nodes[k]? = some z → upL t.Nodes t.Nodes.length k [] ≠ [] := by
      intro k z hz
      obtain ⟨p, e, _⟩ := upL_path h _ k z hz (List.getElem?_eq_some_iff.1 hz).1
      rw [e]
      simp
    have hpar : x.Parent = y.Parent := by
      by_cases h1 : x.Parent = -1
      · by_cases h2 : y.Parent = -1
        · rw [h1, h2]
        · exfalso
          obtain ⟨k, hk⟩ : ∃ k : Nat, y.Parent = (k : Int) := ⟨y.Parent.toNat, by omega⟩
          have := b2 k hk t.Nodes.length (by omega)
          rw [a1 h1] at hpq
          exact hne k _ (List.getElem?_eq_getElem (by omega)) (by rw [← this, ← hpq])
      · obtain ⟨k1, hk1⟩ : ∃ k : Nat, x.Parent = (k : Int) := ⟨x.Parent.toNat, by omega⟩
        by_cases h2 : y.Parent = -1
        · exfalso
          have := b1 k1 hk1 t.Nodes.length (by omega)
          rw [a2 h2] at hpq
          exact hne k1 _ (List.getElem?_eq_getElem (by omega)) (by rw [← this, hpq])
        · obtain ⟨k2, hk2⟩ : ∃ k : Nat, y.Parent = (k : Int) := ⟨y.Parent.toNat, by omega⟩
          have := ih k1 (by omega) k2 _ _ (List.getElem?_eq_getElem (by omega)) (List.getElem?_eq_getElem (by omega)) (by rw [← b1 k1 hk1 t.Nodes.length (by omega), ← b2 k2 hk2 t.Nodes.length (by omega), hpq])
          rw [hk1, hk2, this]
    have hxy : x = y := by
      cases x; cases y
      simp only at hpar hfr
      rw [hpar, hfr]
    rcases Nat.lt_trichotomy i j with hlt | rfl | hlt
    · exact absurd hxy (hpy.2.2.2 x (List.mem_of_getElem? (i := i) (by rw [List.getElem?_take, if_pos hlt]; exact hx)))
    · rfl
    · exact absurd hxy.symm (hpx.2.2.2 y (List.mem_of_getElem? (i := j) (by rw [List.getElem?_take, if_pos hlt]; exact hy)))
theorem upL_all {t : DStacks} (h : stacksOk t = true) : ∀ (n : Nat) (k : Int) (acc : List DFrame), k < t.Nodes.length → acc.all frameOk = true → (upL t.Nodes n k acc).all frameOk = true
  | 0, _, acc, _, ha => by simpa [upL] using ha
  | n + 1, k, acc, hk, ha => by
    simp only [upL]
    split
    · exact ha
    · split
      · rename_i x hx
        have := stacksOk_par h hx
        exact upL_all h n _ _ (by omega) (by rw [List.all_cons, this.2.2.1, ha]; rfl)
      · exact ha
theorem stackAt_eq {t : DStacks} (h : stacksOk t = true) {k : Nat} (hk : k < t.Nodes.length) : stackAt t k = upL t.Nodes t.Nodes.length k [] := by
  unfold stackAt
  rw [h, btw_mk (by omega) (by omega)]
  rfl
theorem stackAt_txt {t : DStacks} (h : stacksOk t = true) {i j : Nat} (hi : i < t.Nodes.length) (hj : j < t.Nodes.length) (he : fmtF (stackAt t i) = fmtF (stackAt t j)) : i = j := by
  rw [stackAt_eq h hi, stackAt_eq h hj] at he
  have hne : ∀ (k : Nat), k < t.Nodes.length → upL t.Nodes t.Nodes.length k [] ≠ [] := by
    intro k hk
    obtain ⟨p, e, _⟩ := upL_path h _ k _ (List.getElem?_eq_getElem hk) hk
    rw [e]
    simp
  exact upL_inj h i j _ _ (List.getElem?_eq_getElem hi) (List.getElem?_eq_getElem hj) (fmtF_inj (upL_all h _ _ _ (by omega) rfl) (upL_all h _ _ _ (by omega) rfl) (hne i hi) (hne j hj) he)
def entAt (p : DProfile) (k : Nat) : Option DEntry := match p.Counts[k]? with
  | some c => if c = 0 then none else some ⟨fmtF (stackAt p.Stacks k), c⟩
  | none => none
def entTake (p : DProfile) (j : Nat) : List DEntry := (List.range j).filterMap (entAt p)
theorem entTake_zero {p : DProfile} {j : Nat} (h : p.Counts[j]? = some 0) : entTake p (j + 1) = entTake p j := by
  unfold entTake
  rw [List.range_succ, List.filterMap_append]
  simp [entAt, h]
theorem entTake_snoc {p : DProfile} {j : Nat} {c : Int} (h : p.Counts[j]? = some c) (hc : c ≠ 0) : entTake p (j + 1) = entTake p j ++ [⟨fmtF (stackAt p.Stacks j), c⟩] := by
  unfold entTake
  rw [List.range_succ, List.filterMap_append]
  simp [entAt, h, hc]
theorem entTake_len (p : DProfile) (j : Nat) : (entTake p j).length ≤ j := by
  unfold entTake
  exact Nat.le_trans (List.length_filterMap_le _ _) (by simp)
def rankE (acc : List DEntry) (s : ByteArray) : Nat := rankL (acc.map fun e => bl e.Stack) (bl s)
def insE (acc : List DEntry) (e : DEntry) : List DEntry := acc.take (rankE acc e.Stack) ++ e :: acc.drop (rankE acc e.Stack)
def entriesOf (p : DProfile) : List DEntry := if profileOk p then (entTake p p.Counts.length).foldl insE [] else []
theorem rankE_le (acc : List DEntry) (s : ByteArray) : rankE acc s ≤ acc.length := by
  unfold rankE
  exact Nat.le_trans (rankL_le _ _) (by simp)
theorem rankE_of {acc : List DEntry} {s : ByteArray} {k : Nat} (h1 : ∀ j x, j < k → acc[j]? = some x → x.Stack.data.toList < s.data.toList) (h2 : ∀ x, acc[k]? = some x → ¬ x.Stack.data.toList < s.data.toList) (hk : k ≤ acc.length) : rankE acc s = k := by
  refine rankL_of (fun j x hj hx => ?_) (fun x hx => ?_) (by simpa using hk)
  · rw [List.getElem?_map] at hx
    cases hy : acc[j]? with
    | none => rw [hy] at hx; simp at hx
    | some y => rw [hy] at hx; simp at hx; subst hx; exact h1 j y hj hy
  · rw [List.getElem?_map] at hx
    cases hy : acc[k]? with
    | none => rw [hy] at hx; simp at hx
    | some y => rw [hy] at hx; simp at hx; subst hx; exact h2 y hy
theorem insE_len (acc : List DEntry) (e : DEntry) : (insE acc e).length = acc.length + 1 := by
  have := rankE_le acc e.Stack
  unfold insE
  simp only [List.length_append, List.length_take, List.length_cons, List.length_drop]
  omega
theorem insE_perm (acc : List DEntry) (e : DEntry) : (insE acc e).Perm (acc ++ [e]) := by
  unfold insE
  have h1 : (acc.take (rankE acc e.Stack) ++ e :: acc.drop (rankE acc e.Stack)).Perm (e :: (acc.take (rankE acc e.Stack) ++ acc.drop (rankE acc e.Stack))) := List.perm_middle
  rw [List.take_append_drop] at h1
  exact h1.trans (List.perm_append_singleton e acc).symm
theorem foldl_insE_perm (l : List DEntry) : ∀ acc, (l.foldl insE acc).Perm (acc ++ l) := by
  induction l with
  | nil => intro acc; simp
  | cons e l ih =>
    intro acc
    rw [List.foldl_cons]
    refine (ih _).trans ?_
    have := (insE_perm acc e).append_right l
    simpa using this
theorem mem_tw {α : Type} {p : α → Bool} : ∀ {l : List α} {x : α}, x ∈ l.takeWhile p → p x = true
  | [], _, h => by cases h
  | a :: l, x, h => by
    rw [List.takeWhile_cons] at h
    split at h
    · rename_i hp
      rcases List.mem_cons.1 h with rfl | h
      · exact hp
      · exact mem_tw h
    · cases h
def ltE (a b : DEntry) : Prop := bl a.Stack < bl b.Stack
def leE (a b : DEntry) : Prop := ¬ bl b.Stack < bl a.Stack
theorem insE_sorted {acc : List DEntry} (e : DEntry) (h : acc.Pairwise leE) : (insE acc e).Pairwise leE := by
  unfold insE
  have hle : ∀ x ∈ acc.take (rankE acc e.Stack), bl x.Stack < bl e.Stack := by
    intro x hx
    have h1 := rankL_take (acc.map fun e => bl e.Stack) (bl e.Stack)
    have hm : bl x.Stack ∈ (acc.map fun e => bl e.Stack).take (rankE acc e.Stack) := by
      rw [← List.map_take]
      exact List.mem_map.2 ⟨x, hx, rfl⟩
    unfold rankE at hm
    rw [h1] at hm
    have := mem_tw hm
    simpa using this
  have hge : ∀ x ∈ acc.drop (rankE acc e.Stack), ¬ bl x.Stack < bl e.Stack := by
    intro x hx hlt
    obtain ⟨i, hi, hxi⟩ := List.getElem_of_mem hx
    rw [List.getElem_drop] at hxi
    rw [List.length_drop] at hi
    have hr : rankE acc e.Stack < acc.length := by omega
    have h0 : ¬ bl (acc[rankE acc e.Stack]).Stack < bl e.Stack := rankL_at (acc := acc.map fun e => bl e.Stack) (s := bl e.Stack) (by
      rw [List.getElem?_map]
      show Option.map _ acc[rankE acc e.Stack]? = _
      rw [List.getElem?_eq_getElem hr]
      rfl)
    rcases Nat.eq_zero_or_pos i with rfl | hpos
    · simp only [Nat.add_zero] at hxi
      rw [hxi] at h0
      exact h0 hlt
    · have := List.pairwise_iff_getElem.1 h (rankE acc e.Stack) (rankE acc e.Stack + i) hr (by omega) (by omega)
      rw [hxi] at this
      rcases Decidable.em (bl (acc[rankE acc e.Stack]).Stack = bl x.Stack) with he | he
      · rw [he] at h0; exact h0 hlt
      · exact h0 (bl_trans (bl_lt_of (bl_le_of_not this) he) hlt)
  rw [List.pairwise_append]
  refine ⟨h.sublist (List.take_sublist _ _), ?_, ?_⟩
  · rw [List.pairwise_cons]
    exact ⟨fun x hx => hge x hx, h.sublist (List.drop_sublist _ _)⟩
  · intro a ha b hb
    rcases List.mem_cons.1 hb with rfl | hb
    · exact fun k => bl_irrefl _ (bl_trans k (hle a ha))
    · intro k
      exact hge b hb (bl_trans k (hle a ha))
theorem foldl_insE_sorted (l : List DEntry) : ∀ acc : List DEntry, acc.Pairwise leE → (l.foldl insE acc).Pairwise leE := by
  induction l with
  | nil => intro acc h; exact h
  | cons e l ih => intro acc h; exact ih _ (insE_sorted e h)
/-- two sorted lists of the same entries with different texts are one -/
theorem sortedE_eq : ∀ {l1 l2 : List DEntry}, l1.Pairwise leE → l2.Pairwise leE → l1.Perm l2 → (l1.map fun e => bl e.Stack).Nodup → l1 = l2
  | [], l2, _, _, hp, _ => hp.nil_eq
  | a :: l1, [], _, _, hp, _ => absurd hp.length_eq (by simp)
  | a :: l1, b :: l2, h1, h2, hp, hn => by
    rw [List.pairwise_cons] at h1 h2
    rw [List.map_cons, List.nodup_cons] at hn
    have hab : a = b := by
      have ha := hp.mem_iff.1 (List.mem_cons_self (a := a) (l := l1))
      have hb := hp.mem_iff.2 (List.mem_cons_self (a := b) (l := l2))
      rcases List.mem_cons.1 ha with e | ha
      · exact e
      · rcases List.mem_cons.1 hb with e | hb
        · exact e.symm
        · have k1 := h1.1 b hb
          have k2 := h2.1 a ha
          have : bl b.Stack = bl a.Stack := List.le_antisymm (bl_le_of_not k2) (bl_le_of_not k1)
          exact absurd (List.mem_map.2 ⟨b, hb, this⟩) hn.1
    subst hab
    rw [sortedE_eq h1.2 h2.2 ((List.perm_cons a).1 hp) hn.2]
theorem ents_nodup {p : DProfile} (h : profileOk p = true) : ∀ n, n ≤ p.Counts.length → ((entTake p n).map fun e => bl e.Stack).Nodup
  | 0, _ => by simp [entTake]
  | n + 1, hn => by
    have hs : stacksOk p.Stacks = true := by simp only [profileOk, Bool.and_eq_true] at h; exact h.1
    have hl : p.Counts.length = p.Stacks.Nodes.length := by simp only [profileOk, Bool.and_eq_true, decide_eq_true_eq] at h; exact h.2.1
    obtain ⟨c, hc⟩ : ∃ c, p.Counts[n]? = some c := ⟨_, List.getElem?_eq_getElem (by omega)⟩
    have ih := ents_nodup h n (by omega)
    by_cases h0 : c = 0
    · subst h0
      rw [entTake_zero hc]
      exact ih
    · rw [entTake_snoc hc h0, List.map_append, List.nodup_append]
      refine ⟨ih, by simp, ?_⟩
      intro a ha b hb
      simp only [List.map_cons, List.map_nil, List.mem_singleton] at hb
      subst hb
      obtain ⟨e, he, rfl⟩ := List.mem_map.1 ha
      unfold entTake at he
      obtain ⟨k, hk, hke⟩ := List.mem_filterMap.1 he
      have hkn := List.mem_range.1 hk
      unfold entAt at hke
      split at hke
      · split at hke
        · cases hke
        · simp only [Option.some.injEq] at hke
          subst hke
          intro heq
          have := stackAt_txt hs (i := k) (j := n) (by omega) (by omega) (bl_inj heq)
          omega
      · cases hke
theorem ents_sort {p : DProfile} (h : profileOk p = true) {l : List DEntry} (hp : l.Perm (entTake p p.Counts.length)) (hs : l.Pairwise leE) : l = entriesOf p := by
  unfold entriesOf
  rw [if_pos h]
  refine sortedE_eq hs (foldl_insE_sorted _ [] List.Pairwise.nil) (hp.trans ?_) ?_
  · have := (foldl_insE_perm (entTake p p.Counts.length) []).symm
    simpa using this
  · exact ((hp.map fun e => bl e.Stack).nodup_iff).2 (ents_nodup h _ (Nat.le_refl _))
theorem entriesOf_len (p : DProfile) : (entriesOf p).length ≤ p.Counts.length := by
  unfold entriesOf
  split
  · have := (foldl_insE_perm (entTake p p.Counts.length) []).length_eq
    have h2 := entTake_len p p.Counts.length
    simp only [List.nil_append] at this
    omega
  · simp
theorem fmtF_size (l : List DFrame) : (fmtF l).size ≤ 12 * l.length := by
  unfold fmtF
  split
  · rename_i h
    rw [szl]
    exact joinF_len h
  · show 0 ≤ _
    omega
theorem counts_nonneg {L : Int} {ns : List Int} (h : countsOk L ns = true) : ∀ {k : Nat} {c : Int}, ns[k]? = some c → 0 ≤ c := by
  induction ns generalizing L with
  | nil => intro k c hc; simp at hc
  | cons n ns ih =>
    simp only [countsOk, Bool.and_eq_true, btw_iff] at h
    intro k c hc
    cases k with
    | zero => simp at hc; omega
    | succ k => exact ih h.2 (by simpa using hc)
theorem pOk_len {p : DProfile} (h : profileOk p = true) : p.Counts.length = p.Stacks.Nodes.length := by
  simp only [profileOk, Bool.and_eq_true, decide_eq_true_eq] at h
  exact h.2.1
theorem profileOk_counts {p : DProfile} (h : profileOk p = true) {k : Nat} {c : Int} (hc : p.Counts[k]? = some c) : 0 ≤ c := by
  simp only [profileOk, Bool.and_eq_true] at h
  exact counts_nonneg h.2.2 hc
end Go.Proofs.YtcomafmiclkmhaaGreatDoor
