/-
  APPEND, PART 2: 'append(own, v)' in a region that draws, the list's block before or behind one box. Over any program.
-/
import Derived.Test.YtbhobjepjaeffaaAppend
set_option linter.unusedVariables false
set_option linter.unusedSimpArgs false
namespace Go.Proofs.Ytbhobjepjaeffaa
open Go.RowKit
section
variable {α : Type} {T : Ty α} {e : TypeId} {P : Program} {t : TypeId} {bytes : Nat} {ops : Array Oper} {o : Oper} {a : Act} {Q : Exit → Act → World → Prop} {K : Act → World → Prop}
theorem run_append_fone2 (hE : Elem P t e T bytes) (hf : Flat T) {ty : TypeId} {W0 X W W1 : World} {os : Array Obj} {d : Nat} {b : Obj} {B g cc hi n2 : Nat} {A : Option Addr} {n c : Nat} {xs : List α} (h : Fr2 (T.sl e) W0 hi n2 W [.slice A n c] xs) (hg : Gro ((gro X os d).alloc b) W)
    (hhi : hi = X.heap.size + os.size) (hn2 : n2 = X.heap.size + os.size + 1) (hlo : X.heap.size ≤ W0.heap.size) (hWX : W0.heap.size ≤ X.heap.size + os.size)
    {ec : List Value} {y : α} (hy : T.R W1 B ec y) (hcell : ∀ (j : Nat) (u : Value), ec[j]? = some u → W.cell? ⟨g, j, none⟩ = some u)
    {L : Nat} (hL : L = n + 1) (hb : L * bytes ≤ 140737488355328) (h63 : L ≤ 9223372036854775807) :
    ∃ A' c'' os' os2 d2, (Builtin.append_ #[t, t] ty #[.slice A n c, .slice (some ⟨g, 0, none⟩) 1 cc]).run P W = .ok (.slice A' L c'') (gro ((gro X os' d).alloc b) os2 d2) ∧ os'.size = os.size ∧ Fr2 (T.sl e) W0 hi n2 (gro ((gro X os' d).alloc b) os2 d2) [.slice A' L c''] (xs ++ [y]) := by
  have hs0 := hg.size
  rw [World.size_alloc, gro_size] at hs0
  obtain ⟨S, hO, hN, hS⟩ := h
  obtain ⟨hO', hsub⟩ := flat_own hf hO
  have hNd : (blockOf A).Nodup := by cases A <;> simp [blockOf]
  subst hhi hn2
  by_cases hcase : ∀ k ∈ blockOf A, W0.heap.size ≤ k ∧ k < X.heap.size + os.size
  · obtain ⟨A', c'', W', hrun, ⟨row, hgr, hrow⟩, hF⟩ := run_append_one (P := P) (ty := ty) (We := W) (m0 := X.heap.size + os.size + 1) hE hs0 hs0 (hi0 := X.heap.size + os.size) ⟨blockOf A, hO', hNd, hcase⟩ (fresh_flat hf hy) (by omega) (by omega) hcell hL hb h63
    obtain ⟨os', os2, d2, hos, rfl⟩ := relit1 hg hgr (fun k hk => by have := hrow k hk; omega)
    exact ⟨A', c'', os', os2, d2, hrun, hos, hF⟩
  · have hhigh : ∀ k ∈ blockOf A, ((gro X os d).alloc b).heap.size ≤ k := by
      intro k hk
      cases A with
      | none => simp [blockOf] at hk
      | some ad =>
        simp only [blockOf, List.mem_singleton, forall_eq] at hk hcase
        subst hk
        rcases hS ad.block (hsub _ (by simp [blockOf])) with h | h
        · exact absurd h hcase
        · rw [World.size_alloc, gro_size]; exact h
    obtain ⟨A', c'', W', hrun, ⟨row, hgr, hrow⟩, hF⟩ := run_append_one (P := P) (ty := ty) (W0 := (gro X os d).alloc b) (We := W) (m0 := W.heap.size) hE (Nat.le_refl _) (Nat.le_refl _) (hi0 := W.heap.size) ⟨blockOf A, hO', hNd, fun k hk => ⟨hhigh k hk, (T.sl e).ltO hO' k hk⟩⟩ (fresh_flat hf hy) (Nat.le_refl _) hg.size hcell hL hb h63
    obtain ⟨os2, d2, rfl⟩ := hg.grown hgr (fun k hk => (hrow k hk).1)
    obtain ⟨S2, h1, h2, h3⟩ := hF
    exact ⟨A', c'', os, os2, d2, hrun, rfl, S2, h1, h2, fun k hk => .inr (by have := h3 k hk; rw [World.size_alloc, gro_size] at this; omega)⟩
theorem step_append_fone2 {E : Prop} (hgd : o.guard = none) (s x : Operand) (hE : Elem P t e T bytes) (hf : Flat T) {W0 X W W1 : World} {os : Array Obj} {d : Nat} {b : Obj} {B g cc hi n2 : Nat} {A : Option Addr} {n c : Nat} {xs : List α} (h : Fr2 (T.sl e) W0 hi n2 W [.slice A n c] xs) (hg : Gro ((gro X os d).alloc b) W)
    (hhi : hi = X.heap.size + os.size) (hn2 : n2 = X.heap.size + os.size + 1) (hlo : X.heap.size ≤ W0.heap.size) (hWX : W0.heap.size ≤ X.heap.size + os.size)
    {ec : List Value} {y : α} (hy : T.R W1 B ec y)
    (ho : o.op = .call { callee := .builtin .append, args := #[s, x], argTypes := #[t, t] }) (hs : a.eval s = .slice A n c) (hx : a.eval x = .slice (some ⟨g, 0, none⟩) 1 cc)
    (hcell : ∀ (j : Nat) (u : Value), ec[j]? = some u → W.cell? ⟨g, j, none⟩ = some u)
    {L : Nat} (hL : L = n + 1) (hb : L * bytes ≤ 140737488355328) (h63 : L ≤ 9223372036854775807)
    (hK : ∀ A' c'' os' os2 d2, os'.size = os.size → Fr2 (T.sl e) W0 hi n2 (gro ((gro X os' d).alloc b) os2 d2) [.slice A' L c''] (xs ++ [y]) → K (a.put o.dst (.slice A' L c'')) (gro ((gro X os' d).alloc b) os2 d2)) : if Region.wanted o (yielded ops a.tmps) = true then Oper.wp P o a W K Q else E := by
  have hw : Region.wanted o (yielded ops a.tmps) = true := by simp [Region.wanted, hgd]
  rw [if_pos hw]
  obtain ⟨A', c'', os', os2, d2, hrun, hos, hF⟩ := run_append_fone2 (P := P) (ty := o.type) hE hf h hg hhi hn2 hlo hWX hy hcell hL hb h63
  exact wp_of_run_append s x ho hs hx hrun (hK A' c'' os' os2 d2 hos hF)
/-- .. behind nothing but the world's own beginning -/
theorem step_append_fone {E : Prop} (hgd : o.guard = none) (s x : Operand) (hE : Elem P t e T bytes) (hf : Flat T) {W0 W W1 : World} {B g cc : Nat} {A : Option Addr} {n c : Nat} {xs : List α} (h : Fresh (T.sl e) W0 W [.slice A n c] xs) (hg : Gro W0 W)
    {ec : List Value} {y : α} (hy : T.R W1 B ec y)
    (ho : o.op = .call { callee := .builtin .append, args := #[s, x], argTypes := #[t, t] }) (hs : a.eval s = .slice A n c) (hx : a.eval x = .slice (some ⟨g, 0, none⟩) 1 cc)
    (hcell : ∀ (j : Nat) (u : Value), ec[j]? = some u → W.cell? ⟨g, j, none⟩ = some u)
    {L : Nat} (hL : L = n + 1) (hb : L * bytes ≤ 140737488355328) (h63 : L ≤ 9223372036854775807)
    (hK : ∀ A' c'' os d, Fresh (T.sl e) W0 (gro W0 os d) [.slice A' L c''] (xs ++ [y]) → K (a.put o.dst (.slice A' L c'')) (gro W0 os d)) : if Region.wanted o (yielded ops a.tmps) = true then Oper.wp P o a W K Q else E := by
  have hw : Region.wanted o (yielded ops a.tmps) = true := by simp [Region.wanted, hgd]
  rw [if_pos hw]
  obtain ⟨A', c'', W', hrun, ⟨row, hgr, hrow⟩, hF⟩ := run_append_one (P := P) (ty := o.type) (We := W) (m0 := W.heap.size) hE (Nat.le_refl _) (Nat.le_refl _) h.fre (fresh_flat hf hy) (Nat.le_refl _) hg.size hcell hL hb h63
  obtain ⟨os, d, rfl⟩ := hg.grown hgr (fun k hk => (hrow k hk).1)
  exact wp_of_run_append s x ho hs hx hrun (hK A' c'' os d (hF.fresh hg.size))
end
end Go.Proofs.Ytbhobjepjaeffaa
