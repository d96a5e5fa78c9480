/-
  CUT: worlds that are known by what they hold alone: the part below a block number; a draw's cursor.
-/
import Derived.Test.YtbhobjepjaeffaaBytes
import Derived.Test.YtbhobjepjaeffaaAppend2
import Derived.Test.YtbhobjepjaeffaaBox2
set_option linter.unusedVariables false
set_option linter.unusedSimpArgs false
namespace Go.Proofs.Ytbhobjepjaeffaa
open Go.RowKit
/-- the part below a block number -/
def cut (W : World) (n : Nat) : World := { W with heap := W.heap.extract 0 n }
theorem cut_size {W : World} {n : Nat} (h : n ≤ W.heap.size) : (cut W n).heap.size = n := by
  simp only [cut, Array.size_extract]
  omega
theorem cut_get {W : World} {n i : Nat} (h : n ≤ W.heap.size) (hi : i < n) : (cut W n).heap[i]? = W.heap[i]? := by
  simp only [cut]
  rw [Array.getElem?_extract, if_pos (by omega), Nat.zero_add]
theorem cut_gro {W : World} {n : Nat} (h : n ≤ W.heap.size) : Gro (cut W n) W :=
  Gro.of_below ⟨rfl, rfl, rfl, by rw [cut_size h]; exact h, fun k hk => by rw [cut_size h] at hk; exact (cut_get h hk).symm⟩
theorem Gro.cut {w W : World} {n : Nat} (h : Gro w W) (hn : w.heap.size ≤ n) (h2 : n ≤ W.heap.size) : Gro w (cut W n) := by
  have hb := h.below
  exact Gro.of_below ⟨hb.os, hb.tape, hb.output, by rw [cut_size h2]; exact hn, fun k hk => by rw [cut_get h2 (by omega)]; exact hb.block k hk⟩
theorem cell_up {a b : World} (h : Gro a b) {p : Addr} {v : Value} (hp : a.cell? p = some v) : b.cell? p = some v := by
  obtain ⟨os, d, rfl⟩ := h
  exact gro_keeps hp os d
theorem OnlyS.below {S : List Nat} {a W W' : World} {lo : Nat} (h : OnlyS S a W) (hb : Below lo W W') (hl : a.heap.size ≤ lo) : OnlyS S a W' :=
  ⟨hb.os.trans h.os, hb.tape.trans h.tape, hb.output.trans h.output, Nat.le_trans h.size hb.size, fun i hi hn => (hb.block i (by omega)).trans (h.block i hi hn)⟩
theorem FrN.only {α : Type} {T : Ty α} {lo hi k : Nat} {a b : World} {cs : List Value} {x : α} (h : FrN T lo hi a cs x) (hs : OnlyS [k] a b) (hk : k < lo) : FrN T lo hi b cs x := by
  obtain ⟨S, h1, h2, h3⟩ := h
  exact ⟨S, T.keepO h1 (fun j hj => hs.block j (T.ltO h1 j hj) (by have := h3 j hj; simp; omega)), h2, h3⟩
section
variable {α : Type} {T : Ty α} {e : TypeId} {P : Program} {t : TypeId} {bytes : Nat} {ops : Array Oper} {rest : List Oper} {o : Oper} {a : Act} {Q : Exit → Act → World → Prop} {K : Act → World → Prop}
/-- 'append(own, v)' in a world of which the own blocks' beginning alone is known -/
theorem run_append_up (hE : Elem P t e T bytes) {ty : TypeId} {W We : World} {lo hi g cc : Nat} {A : Option Addr} {n c : Nat} {xs : List α} (h : FrN (T.sl e) lo hi W [.slice A n c] xs) (hlo : lo ≤ W.heap.size)
    {ec : List Value} {y : α} (hy : Fresh T We W ec y) (hhi : hi ≤ We.heap.size) (hle : lo ≤ We.heap.size) (hcell : ∀ (j : Nat) (u : Value), ec[j]? = some u → W.cell? ⟨g, j, none⟩ = some u)
    {L : Nat} (hL : L = n + 1) (hb : L * bytes ≤ 140737488355328) (h63 : L ≤ 9223372036854775807) :
    ∃ A' c'' W', (Builtin.append_ #[t, t] ty #[.slice A n c, .slice (some ⟨g, 0, none⟩) 1 cc]).run P W = .ok (.slice A' L c'') W' ∧ Below lo W W' ∧ FrN (T.sl e) lo W'.heap.size W' [.slice A' L c''] (xs ++ [y]) := by
  obtain ⟨S, h1, h2, h3⟩ := h
  have hf : Fre (T.sl e) (cut W lo) hi W [.slice A n c] xs := ⟨S, h1, h2, fun b hb => by rw [cut_size hlo]; exact h3 b hb⟩
  have hg : Gro (cut W lo) W := cut_gro hlo
  obtain ⟨A', c'', W', hrun, ⟨row, hgr, hrow⟩, hF⟩ := run_append_one (P := P) (ty := ty) (W0 := cut W lo) (We := We) (m0 := lo) hE hlo hle hf hy hhi (by rw [cut_size hlo]; exact hle) hcell hL hb h63
  have hg2 := hg.grown hgr (fun k hk => (hrow k hk).1)
  have hb2 := hg2.below
  rw [cut_size hlo] at hb2
  obtain ⟨S2, k1, k2, k3⟩ := hF
  refine ⟨A', c'', W', hrun, ⟨hb2.os, hb2.tape, hb2.output, hgr.size, fun i hi => (hb2.block i hi).trans (cut_get hlo hi)⟩, S2, k1, k2, fun b hb => ⟨?_, (T.sl e).ltO k1 b hb⟩⟩
  rcases k3 b hb with h | h
  · rw [cut_size hlo] at h
    exact h.1
  · exact h
theorem step_append_up {E : Prop} (hgd : o.guard = none) (s x : Operand) (hE : Elem P t e T bytes) (hf : Flat T) {W W1 : World} {lo hi B g cc : Nat} {A : Option Addr} {n c : Nat} {xs : List α} (h : FrN (T.sl e) lo hi W [.slice A n c] xs) (hlo : lo ≤ W.heap.size) (hhi : hi ≤ W.heap.size)
    {ec : List Value} {y : α} (hy : T.R W1 B ec y)
    (ho : o.op = .call { callee := .builtin .append, args := #[s, x], argTypes := #[t, t] }) (hs : a.eval s = .slice A n c) (hx : a.eval x = .slice (some ⟨g, 0, none⟩) 1 cc)
    (hcell : ∀ (j : Nat) (u : Value), ec[j]? = some u → W.cell? ⟨g, j, none⟩ = some u)
    {L : Nat} (hL : L = n + 1) (hb : L * bytes ≤ 140737488355328) (h63 : L ≤ 9223372036854775807)
    (hK : ∀ A' c'' W', Below lo W W' → FrN (T.sl e) lo W'.heap.size W' [.slice A' L c''] (xs ++ [y]) → K (a.put o.dst (.slice A' L c'')) W') : if Region.wanted o (yielded ops a.tmps) = true then Oper.wp P o a W K Q else E := by
  have hw : Region.wanted o (yielded ops a.tmps) = true := by simp [Region.wanted, hgd]
  rw [if_pos hw]
  obtain ⟨A', c'', W', hrun, hbl, hF⟩ := run_append_up (P := P) (ty := o.type) hE h hlo (We := W) (fresh_flat hf hy) hhi hlo hcell hL hb h63
  exact wp_of_run_append s x ho hs hx hrun (hK A' c'' W' hbl hF)
theorem wpList_append_up (hgd : o.guard = none) (s x : Operand) (hE : Elem P t e T bytes) {W We : World} {lo hi g cc : Nat} {A : Option Addr} {n c : Nat} {xs : List α} (h : FrN (T.sl e) lo hi W [.slice A n c] xs) (hlo : lo ≤ W.heap.size)
    {ec : List Value} {y : α} (hy : Fresh T We W ec y) (hhi : hi ≤ We.heap.size) (hle : lo ≤ We.heap.size)
    (ho : o.op = .call { callee := .builtin .append, args := #[s, x], argTypes := #[t, t] }) (hs : a.eval s = .slice A n c) (hx : a.eval x = .slice (some ⟨g, 0, none⟩) 1 cc)
    (hcell : ∀ (j : Nat) (u : Value), ec[j]? = some u → W.cell? ⟨g, j, none⟩ = some u)
    {L : Nat} (hL : L = n + 1) (hb : L * bytes ≤ 140737488355328) (h63 : L ≤ 9223372036854775807)
    (hK : ∀ A' c'' W', Below lo W W' → FrN (T.sl e) lo W'.heap.size W' [.slice A' L c''] (xs ++ [y]) → wpList P ops Q rest (a.put o.dst (.slice A' L c'')) W') : wpList P ops Q (o :: rest) a W :=
  wpList_plain hgd fun K hKK => by
    obtain ⟨A', c'', W', hrun, hbl, hF⟩ := run_append_up (P := P) (ty := o.type) hE h hlo hy hhi hle hcell hL hb h63
    exact wp_of_run_append s x ho hs hx hrun (hKK _ _ (hK A' c'' W' hbl hF))
end
end Go.Proofs.Ytbhobjepjaeffaa
