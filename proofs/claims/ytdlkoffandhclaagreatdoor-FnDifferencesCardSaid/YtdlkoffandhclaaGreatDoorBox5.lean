/-
  BOX5: appends of one element to a list of the call's own that began as an empty one, with other new blocks behind it.
-/
import Derived.Test.YtdlkoffandhclaaGreatDoorBox4
import Derived.Deep.AppendSrc
set_option linter.unusedVariables false
set_option linter.unusedSimpArgs false
namespace Go.Proofs.YtdlkoffandhclaaGreatDoor
open Go.RowKit
section
variable {α : Type} {T : Ty α} {e : TypeId} {P : Program} {t : TypeId} {bytes : Nat} {ops : Array Oper} {rest : List Oper} {o : Oper} {a : Act} {Q : Exit → Act → World → Prop} {K : Act → World → Prop}
theorem run_append_cap0n (hE : Elem P t e T bytes) (hf : Flat T) {ty : TypeId} {W : World} {g : Nat} (_hg0 : W.heap[g]? = some (.cells #[] e (0, 0)))
    {B : Nat} {e' : TypeId} {A2 : Option Addr} {m c2 : Nat} {ys : List α} (hy : (T.sl e').R W B [.slice A2 m c2] ys) (hb : m * bytes ≤ 140737488355328) (h63 : m ≤ 9223372036854775807) (h00 : 0 < m) :
    ∃ A' c'' os d, (Builtin.append_ #[t, t] ty #[.slice (some ⟨g, 0, none⟩) 0 0, .slice A2 m c2]).run P W = .ok (.slice A' m c'') (gro W os d) ∧ Fresh (T.sl e) W (gro W os d) [.slice A' m c''] ys := by
  obtain ⟨A2', c2', h1, h2, h3, h4, h5⟩ := id hy
  simp only [List.cons.injEq, Value.slice.injEq, and_true] at h1
  obtain ⟨rfl, rfl, rfl⟩ := h1
  obtain ⟨i, z, hi, hz, hz1, hz2, hz3⟩ := hE.info
  obtain ⟨g2, off, rfl, hgB, h6⟩ := h5 h00
  obtain ⟨cs, hrows, hlen, hcell⟩ := rows_of_flat (T := T) hf (w := W) (w' := W) (B := B) (g := g2) (off := off) ys 0 (fun i x hx => by
    obtain ⟨ec, h7, h8⟩ := h6 i x hx
    exact ⟨ec, h7, fun j u hu => by rw [Nat.zero_add]; exact h8 j u hu⟩)
  have hsrc : Src P i.size t (.slice (some ⟨g2, off, none⟩) ys.length c2) ys.length cs W := Src.ofSlice W hE.ht _ _ _ cs (by rw [hlen, hz1]) (fun j u hu => by
    have := hcell j u hu
    rw [Addr.add_lit, show off + j = off + 0 * T.size + j from by omega]
    exact this) (Rows.one hrows)
  have hr := run_append_grow_src (P := P) W t t ty e i z hE.ht hi hz (some ⟨g, 0, none⟩) 0 0 [] (run_firstCells_some W.drew i.size 0 _ 0 0 [] (by simp) (fun j u hu => by simp at hu)) (.slice (some ⟨g2, off, none⟩) ys.length c2) ys.length cs hsrc (by omega) (by omega) (growslice_fits (by omega) (by rw [hz2, Nat.zero_add]; exact hb))
  simp only [Nat.zero_add, List.nil_append] at hr
  have hge := grownCap_ge W ys.length 0 e
  have hle := grownCap_le_maxLen W ys.length 0 e
  generalize grownCap W ys.length 0 e = c' at hr hge hle
  by_cases hm : ys.length ≤ maxLen
  case neg =>
    exfalso
    unfold maxLen at hm
    omega
  have hle' := hle hm
  generalize hcur : (cs.toArray ++ Builtin.zeroCells z.cells (c' - ys.length)) = cur at hr
  have hW2 : W.drew.alloc (.cells cur e) = gro W #[.cells cur e] (W.drawn + 1) := by
    unfold gro World.alloc World.drew
    simp
  refine ⟨some ⟨W.heap.size, 0, none⟩, c', _, _, by rw [hr, hW2], [W.heap.size], ?_, by simp, fun b hb => by simp at hb; omega⟩
  rw [← hW2]
  refine ⟨_, c', cs, [], rfl, ⟨by rw [hlen], .inr ⟨W.heap.size, c', cur, rfl, Nat.zero_le _, heap_alloc_new W.drew _, hge, hle', ?_, ?_⟩⟩, Rows.keep hrows (fun k hk => by cases hk), rfl⟩
  · rw [← hcur, Array.size_append, size_zeroCells, hz3]
    simp only [List.size_toArray, hlen]
    rw [← Nat.add_mul]
    congr 1
    omega
  · rw [← hcur, Array.toList_append, List.take_append_of_le_length (by simp [hlen])]
    rw [List.take_of_length_le (by simp [hlen])]
/-- an empty list at the block g, or a list of the call's own since W0 -/
def EmpFr (T : Ty α) (e : TypeId) (W0 : World) (g : Nat) (W : World) (A : Option Addr) (n c : Nat) (xs : List α) : Prop :=
  (xs = [] ∧ n = 0 ∧ A = some ⟨g, 0, none⟩ ∧ c = 0 ∧ W.heap[g]? = some (.cells #[] e (0, 0))) ∨ Fresh (T.sl e) W0 W [.slice A n c] xs
theorem EmpFr.gro {W0 W W' : World} {g : Nat} {A : Option Addr} {n c : Nat} {xs : List α} (h : EmpFr T e W0 g W A n c xs) (hg : Gro W W') : EmpFr T e W0 g W' A n c xs := by
  rcases h with ⟨h1, h2, h3, h4, h5⟩ | h
  · refine .inl ⟨h1, h2, h3, h4, ?_⟩
    rw [hg.block (Array.getElem?_eq_some_iff.1 h5).1]
    exact h5
  · exact .inr (h.gro hg)
theorem EmpFr.start {W0 X W : World} {g : Nat} (hg : Gro (X.alloc (.cells #[] e)) W) (hgX : g = X.heap.size) : EmpFr T e W0 g W (some ⟨g, 0, none⟩) 0 0 [] := by
  subst hgX
  exact .inl ⟨rfl, rfl, rfl, rfl, by rw [hg.block (by simp)]; exact heap_alloc_new X _⟩
/-- of the call's own since an elder world -/
theorem EmpFr.fresh {w W0 W : World} {g : Nat} {A : Option Addr} {n c : Nat} {xs : List α} (h : EmpFr T e W0 g W A n c xs) (h1 : w.heap.size ≤ g) (h2 : w.heap.size ≤ W0.heap.size) : Fresh (T.sl e) w W [.slice A n c] xs := by
  rcases h with ⟨rfl, rfl, rfl, rfl, h5⟩ | h
  · refine ⟨[g], ?_, by simp, fun b hb => by simp at hb; omega⟩
    exact own_made (xs := ([] : List α)) h5 (show Rows T W (#[] : Array Value).toList [] [] from ⟨rfl, rfl⟩) (by simp)
  · exact h.since h2
theorem run_append_eone (hE : Elem P t e T bytes) (hf : Flat T) {ty : TypeId} {W0 W W1 : World} {g B g2 : Nat} {A : Option Addr} {n c : Nat} {xs : List α} (h : EmpFr T e W0 g W A n c xs) (hg : Gro W0 W)
    {ec : List Value} {y : α} (hy : T.R W1 B ec y) (hg2 : g2 < W.heap.size) (hcell : ∀ (j : Nat) (u : Value), ec[j]? = some u → W.cell? ⟨g2, j, none⟩ = some u)
    {L : Nat} (hL : L = n + 1) (hb : L * bytes ≤ 140737488355328) (h63 : L ≤ 9223372036854775807) :
    ∃ A' c'' os d, (Builtin.append_ #[t, t] ty #[.slice A n c, .slice (some ⟨g2, 0, none⟩) 1 1]).run P W = .ok (.slice A' L c'') (Go.Proofs.YtdlkoffandhclaaGreatDoor.gro W0 os d) ∧ Fresh (T.sl e) W0 (Go.Proofs.YtdlkoffandhclaaGreatDoor.gro W0 os d) [.slice A' L c''] (xs ++ [y]) := by
  rcases h with ⟨rfl, rfl, rfl, rfl, h5⟩ | h
  · subst hL
    have hy2 : (T.sl e).R W W.heap.size [.slice (some ⟨g2, 0, none⟩) 1 1] [y] := by
      refine ⟨some ⟨g2, 0, none⟩, 1, rfl, by simp, by omega, by simp, fun _ => ⟨g2, 0, rfl, hg2, fun i x hx => ?_⟩⟩
      cases i with
      | zero =>
        simp only [List.getElem?_cons_zero, Option.some.injEq] at hx
        subst hx
        exact ⟨ec, (fresh_flat hf (We := W) (W := W) hy).read, fun j u hu => by simpa using hcell j u hu⟩
      | succ i => simp at hx
    obtain ⟨A', c'', os, d, hrun, hF⟩ := run_append_cap0n (P := P) (ty := ty) hE hf h5 hy2 (by simpa using hb) (by omega) (by omega)
    obtain ⟨os0, d0, rfl⟩ := hg
    rw [gro_gro] at hrun hF
    exact ⟨A', c'', _, _, hrun, hF.since (by simp)⟩
  · obtain ⟨A', c'', W', hrun, ⟨row, hgr, hrow⟩, hF⟩ := run_append_one (P := P) (ty := ty) (We := W) (m0 := W.heap.size) hE (Nat.le_refl _) (Nat.le_refl _) h.fre (fresh_flat hf hy) (Nat.le_refl _) hg.size hcell hL hb h63
    obtain ⟨os, d, rfl⟩ := hg.grown hgr (fun k hk => (hrow k hk).1)
    exact ⟨A', c'', os, d, hrun, hF.fresh hg.size⟩
theorem step_append_eone {E : Prop} (hgd : o.guard = none) (s x : Operand) (hE : Elem P t e T bytes) (hf : Flat T) {W0 W W1 : World} {g B g2 : Nat} {A : Option Addr} {n c : Nat} {xs : List α} (h : EmpFr T e W0 g W A n c xs) (hg : Gro W0 W)
    {ec : List Value} {y : α} (hy : T.R W1 B ec y)
    (ho : o.op = .call { callee := .builtin .append, args := #[s, x], argTypes := #[t, t] }) (hs : a.eval s = .slice A n c) (hx : a.eval x = .slice (some ⟨g2, 0, none⟩) 1 1)
    (hg2 : g2 < W.heap.size) (hcell : ∀ (j : Nat) (u : Value), ec[j]? = some u → W.cell? ⟨g2, j, none⟩ = some u)
    {L : Nat} (hL : L = n + 1) (hb : L * bytes ≤ 140737488355328) (h63 : L ≤ 9223372036854775807)
    (hK : ∀ A' c'' os d, Fresh (T.sl e) W0 (Go.Proofs.YtdlkoffandhclaaGreatDoor.gro W0 os d) [.slice A' L c''] (xs ++ [y]) → K (a.put o.dst (.slice A' L c'')) (Go.Proofs.YtdlkoffandhclaaGreatDoor.gro W0 os d)) : if Region.wanted o (yielded ops a.tmps) = true then Oper.wp P o a W K Q else E := by
  have hw : Region.wanted o (yielded ops a.tmps) = true := by simp [Region.wanted, hgd]
  rw [if_pos hw]
  obtain ⟨A', c'', os, d, hrun, hF⟩ := run_append_eone (P := P) (ty := o.type) hE hf h hg hy hg2 hcell hL hb h63
  exact wp_of_run_append s x ho hs hx hrun (hK A' c'' os d hF)
/-- .. in the walk -/
theorem wpList_append_eone (hgd : o.guard = none) (s x : Operand) (hE : Elem P t e T bytes) (hf : Flat T) {W0 W W1 : World} {g B g2 : Nat} {A : Option Addr} {n c : Nat} {xs : List α} (h : EmpFr T e W0 g W A n c xs) (hg : Gro W0 W)
    {ec : List Value} {y : α} (hy : T.R W1 B ec y)
    (ho : o.op = .call { callee := .builtin .append, args := #[s, x], argTypes := #[t, t] }) (hs : a.eval s = .slice A n c) (hx : a.eval x = .slice (some ⟨g2, 0, none⟩) 1 1)
    (hg2 : g2 < W.heap.size) (hcell : ∀ (j : Nat) (u : Value), ec[j]? = some u → W.cell? ⟨g2, j, none⟩ = some u)
    {L : Nat} (hL : L = n + 1) (hb : L * bytes ≤ 140737488355328) (h63 : L ≤ 9223372036854775807)
    (hK : ∀ A' c'' os d, Fresh (T.sl e) W0 (Go.Proofs.YtdlkoffandhclaaGreatDoor.gro W0 os d) [.slice A' L c''] (xs ++ [y]) → wpList P ops Q rest (a.put o.dst (.slice A' L c'')) (Go.Proofs.YtdlkoffandhclaaGreatDoor.gro W0 os d)) : wpList P ops Q (o :: rest) a W :=
  wpList_plain hgd fun K hKK => by
    obtain ⟨A', c'', os, d, hrun, hF⟩ := run_append_eone (P := P) (ty := o.type) hE hf h hg hy hg2 hcell hL hb h63
    exact wp_of_run_append s x ho hs hx hrun (hKK _ _ (hK A' c'' os d hF))
end
end Go.Proofs.YtdlkoffandhclaaGreatDoor
