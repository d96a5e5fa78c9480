/-
  BOX4: 'append([]T{}, read...)' in a region that draws, whatever order the boxes are laid in: a list without capacity is never written in place, so every old block stays. Over any program.
-/
import Derived.Test.YtcomafmiclkmhaaGreatDoorAppend
import Derived.Test.YtcomafmiclkmhaaGreatDoorBox2
import Derived.Deep.AppendSrc
set_option linter.unusedVariables false
set_option linter.unusedSimpArgs false
namespace Go.Proofs.YtcomafmiclkmhaaGreatDoor
open Go.RowKit
theorem same_gro {a b : World} {n m : Nat} {os : Array Obj} {d d' : Nat} (h : Same n m a b) (hs : b.heap.size = a.heap.size) : Same n m (Go.Proofs.YtcomafmiclkmhaaGreatDoor.gro a os d) (Go.Proofs.YtcomafmiclkmhaaGreatDoor.gro b os d') := by
  intro k h1 h2
  simp only [Go.Proofs.YtcomafmiclkmhaaGreatDoor.gro]
  by_cases hk : k < a.heap.size
  · rw [Array.getElem?_append_left (by omega), Array.getElem?_append_left (by omega)]
    exact h k h1 h2
  · rw [Array.getElem?_append_right (by omega), Array.getElem?_append_right (by omega), hs]
theorem same_alloc {a b : World} {n m : Nat} {o : Obj} (h : Same n m a b) (hs : b.heap.size = a.heap.size) : Same n m (a.alloc o) (b.alloc o) := by
  rw [gro_of_alloc, gro_of_alloc]
  exact same_gro h hs
theorem same_alloc_lo {a b : World} {n m : Nat} {o o' : Obj} (h : Same n m a b) (hs : b.heap.size = a.heap.size) (hm : m ≤ a.heap.size) : Same n m (a.alloc o) (b.alloc o') := by
  intro k h1 h2
  have e1 : (a.alloc o).heap[k]? = a.heap[k]? := by
    have := (show Gro a (a.alloc o) from (Gro.refl a).alloc o).block (k := k) (by omega)
    exact this
  have e2 : (b.alloc o').heap[k]? = b.heap[k]? := by
    have := (show Gro b (b.alloc o') from (Gro.refl b).alloc o').block (k := k) (by omega)
    exact this
  rw [e1, e2]
  exact h k h1 h2
theorem same_hi {a b : World} {n m : Nat} (hs : b.heap.size = a.heap.size) (hn : a.heap.size ≤ n) : Same n m a b := by
  intro k h1 _
  rw [Array.getElem?_eq_none (by omega), Array.getElem?_eq_none (by omega)]
theorem same_drew_l {a b : World} {n m : Nat} (h : Same n m a b) : Same n m a.drew b := h
section
variable {α : Type} {T : Ty α} {e : TypeId} {P : Program} {t : TypeId} {bytes : Nat} {ops : Array Oper} {rest : List Oper} {o : Oper} {a : Act} {Q : Exit → Act → World → Prop} {K : Act → World → Prop}
theorem run_append_cap0 (hE : Elem P t e T bytes) (hf : Flat T) {ty : TypeId} {W : World} {g : Nat} (hg0 : W.heap[g]? = some (.cells #[] e (0, 0))) 
    {B : Nat} {e' : TypeId} {A2 : Option Addr} {m c2 : Nat} {ys : List α} (hy : (T.sl e').R W B [.slice A2 m c2] ys) (hb : m * bytes ≤ 140737488355328) (h63 : m ≤ 9223372036854775807) :
    ∃ A' c'' os d, (Builtin.append_ #[t, t] ty #[.slice (some ⟨g, 0, none⟩) 0 0, .slice A2 m c2]).run P W = .ok (.slice A' m c'') (gro W os d) ∧ Fr2N (T.sl e) g (g + 1) W.heap.size (gro W os d) [.slice A' m c''] ys := by
  obtain ⟨A2', c2', h1, h2, h3, h4, h5⟩ := id hy
  simp only [List.cons.injEq, Value.slice.injEq, and_true] at h1
  obtain ⟨rfl, rfl, rfl⟩ := h1
  obtain ⟨i, z, hi, hz, hz1, hz2, hz3⟩ := hE.info
  have hgl : g < W.heap.size := (Array.getElem?_eq_some_iff.1 hg0).1
  rcases Nat.eq_zero_or_pos ys.length with h0 | h0
  · have hys : ys = [] := List.eq_nil_of_length_eq_zero h0
    subst hys
    have hs : Src P i.size t (.slice A2 0 c2) 0 [] W := by
      cases A2 with
      | none => exact Src.ofNil W hE.ht c2
      | some ad => exact Src.ofSlice W hE.ht ad 0 c2 [] (by simp) (fun j u hu => by simp at hu) (fun u hu => by cases hu)
    have hr := run_append_room_src (P := P) W t t ty e i hE.ht hi g 0 0 0 (.slice A2 0 c2) 0 [] hs (by omega) (fun j hj => by simp at hj) (fun j hj => by simp at hj)
    refine ⟨some ⟨g, 0, none⟩, 0, #[], W.drawn, ?_, [g], ?_, by simp, fun b hb => by simp at hb; omega⟩
    · rw [← gro_refl]; exact hr
    · rw [← gro_refl]
      exact own_made (xs := ([] : List α)) hg0 (show Rows T W (#[] : Array Value).toList [] [] from ⟨rfl, rfl⟩) (by simp)
  · obtain ⟨g2, off, rfl, hgB, h6⟩ := h5 h0
    obtain ⟨cs, hrows, hlen, hcell⟩ := rows_of_flat (T := T) hf (w := W) (w' := W) (B := B) (g := g2) (off := off) ys 0 (fun i x hx => by
      obtain ⟨ec, h7, h8⟩ := h6 i x hx
      exact ⟨ec, h7, fun j u hu => by rw [Nat.zero_add]; exact h8 j u hu⟩)
    have hsrc : Src P i.size t (.slice (some ⟨g2, off, none⟩) ys.length c2) ys.length cs W := Src.ofSlice W hE.ht _ _ _ cs (by rw [hlen, hz1]) (fun j u hu => by
      have := hcell j u hu
      rw [Addr.add_lit, show off + j = off + 0 * T.size + j from by omega]
      exact this) (Rows.one hrows)
    have hr := run_append_grow_src (P := P) W t t ty e i z hE.ht hi hz (some ⟨g, 0, none⟩) 0 0 [] (run_firstCells_some W.drew i.size 0 _ 0 0 [] (by simp) (fun j u hu => by simp at hu)) (.slice (some ⟨g2, off, none⟩) ys.length c2) ys.length cs hsrc (by omega) (by omega) (growslice_fits (by omega) (by rw [hz2, Nat.zero_add]; exact hb))
    simp only [Nat.zero_add, List.nil_append] at hr
    have hge := grownCap_ge W ys.length 0 e
    have hle := grownCap_le_maxLen W ys.length 0 e
    generalize grownCap W ys.length 0 e = c' at hr hge hle
    by_cases hm : ys.length ≤ maxLen
    case neg =>
      exfalso
      unfold maxLen at hm
      omega
    have hle' := hle hm
    generalize hcur : (cs.toArray ++ Builtin.zeroCells z.cells (c' - ys.length)) = cur at hr
    have hW2 : W.drew.alloc (.cells cur e) = gro W #[.cells cur e] (W.drawn + 1) := by
      unfold gro World.alloc World.drew
      simp
    refine ⟨some ⟨W.heap.size, 0, none⟩, c', _, _, by rw [hr, hW2], [W.heap.size], ?_, by simp, fun b hb => by simp at hb; omega⟩
    rw [← hW2]
    refine ⟨_, c', cs, [], rfl, ⟨by rw [hlen], .inr ⟨W.heap.size, c', cur, rfl, Nat.zero_le _, heap_alloc_new W.drew _, hge, hle', ?_, ?_⟩⟩, Rows.keep hrows (fun k hk => by cases hk), rfl⟩
    · rw [← hcur, Array.size_append, size_zeroCells, hz3]
      simp only [List.size_toArray, hlen]
      rw [← Nat.add_mul]
      congr 1
      omega
    · rw [← hcur, Array.toList_append, List.take_append_of_le_length (by simp [hlen])]
      rw [List.take_of_length_le (by simp [hlen])]
theorem step_append_cap0 {E : Prop} (hgd : o.guard = none) (s x : Operand) (hE : Elem P t e T bytes) (hf : Flat T) {X W : World} {g : Nat} (hg : Gro (X.alloc (.cells #[] e)) W) (hgX : g = X.heap.size)
    {B : Nat} {e' : TypeId} {A2 : Option Addr} {m c2 : Nat} {ys : List α} (hy : (T.sl e').R W B [.slice A2 m c2] ys)
    (ho : o.op = .call { callee := .builtin .append, args := #[s, x], argTypes := #[t, t] }) (hs : a.eval s = .slice (some ⟨g, 0, none⟩) 0 0) (hx : a.eval x = .slice A2 m c2)
    (hb : m * bytes ≤ 140737488355328) (h63 : m ≤ 9223372036854775807)
    (hK : ∀ A' c'' os d, Fr2N (T.sl e) X.heap.size (X.heap.size + 1) W.heap.size (gro W os d) [.slice A' m c''] ys → K (a.put o.dst (.slice A' m c'')) (gro W os d)) : if Region.wanted o (yielded ops a.tmps) = true then Oper.wp P o a W K Q else E := by
  have hw : Region.wanted o (yielded ops a.tmps) = true := by simp [Region.wanted, hgd]
  rw [if_pos hw]
  subst hgX
  have hb0 : W.heap[X.heap.size]? = some (.cells #[] e (0, 0)) := by rw [hg.block (by simp)]; exact heap_alloc_new X _
  have hsz := hg.size
  rw [World.size_alloc] at hsz
  obtain ⟨A', c'', os, d, hrun, hF⟩ := run_append_cap0 (P := P) (ty := o.type) hE hf hb0 hy hb h63
  exact wp_of_run_append s x ho hs hx hrun (hK A' c'' os d hF)
end
end Go.Proofs.YtcomafmiclkmhaaGreatDoor
