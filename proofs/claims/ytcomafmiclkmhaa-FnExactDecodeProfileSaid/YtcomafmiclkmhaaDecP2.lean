/-
  DECP_S: DecodeProfile of the reference.
-/
import Derived.Test.YtcomafmiclkmhaaDecP
set_option linter.unusedVariables false
set_option linter.unusedSimpArgs false
namespace Go.Proofs.Ytcomafmiclkmhaa
open Go.RowKit
/-- the four numbers of a row -/
def posN (s : ByteArray) (a : Nat) : Nat → Nat
  | 0 => a
  | i + 1 => posN s a i + (decV s (posN s a i : Nat)).2.1
def valN (s : ByteArray) (a i : Nat) : Nat := (decV s (posN s a i : Nat)).1
def okN (s : ByteArray) (a i : Nat) : Bool := (decV s (posN s a i : Nat)).2.2
theorem posN_eq (s : ByteArray) (a i : Nat) : decV s (posN s a i : Nat) = (valN s a i, (decV s (posN s a i : Nat)).2.1, okN s a i) := rfl
theorem four_bad {s : ByteArray} {a i : Nat} (hi : i < 4) (h : ∀ j, j < i → okN s a j = true) (hb : okN s a i = false) : rdFour s a = none := by
  have e0 := posN_eq s a 0
  have e1 := posN_eq s a 1
  have e2 := posN_eq s a 2
  have e3 := posN_eq s a 3
  match i, hi, h, hb with
  | 0, _, h, hb => rw [hb] at e0; exact rdFour_1 e0
  | 1, _, h, hb => rw [h 0 (by omega)] at e0; rw [hb] at e1; exact rdFour_2 e0 e1
  | 2, _, h, hb => rw [h 0 (by omega)] at e0; rw [h 1 (by omega)] at e1; rw [hb] at e2; exact rdFour_3 e0 e1 e2
  | 3, _, h, hb => rw [h 0 (by omega)] at e0; rw [h 1 (by omega)] at e1; rw [h 2 (by omega)] at e2; rw [hb] at e3; exact rdFour_4 e0 e1 e2 e3
theorem four_ok {s : ByteArray} {a : Nat} (h : ∀ j, j < 4 → okN s a j = true) : rdFour s a = some (valN s a 0, valN s a 1, valN s a 2, valN s a 3, posN s a 4) := by
  have e0 := posN_eq s a 0
  have e1 := posN_eq s a 1
  have e2 := posN_eq s a 2
  have e3 := posN_eq s a 3
  rw [h 0 (by omega)] at e0
  rw [h 1 (by omega)] at e1
  rw [h 2 (by omega)] at e2
  rw [h 3 (by omega)] at e3
  exact rdFour_ok e0 e1 e2 e3
theorem posN_le {s : ByteArray} {a : Nat} (ha : a ≤ s.size) : ∀ i, posN s a i ≤ s.size
  | 0 => ha
  | i + 1 => by
    have h1 := posN_le ha i
    obtain ⟨n, z, k, hd⟩ : ∃ n z k, decV s (posN s a i : Nat) = (n, z, k) := ⟨_, _, _, rfl⟩
    simp only [posN, hd]
    cases k with
    | true => have := (decV_bd hd).2.2.2.1; omega
    | false => rw [(decV_zero hd).2]; exact h1
theorem posN_adv {s : ByteArray} {a i : Nat} (h : okN s a i = true) : posN s a i + 1 ≤ posN s a (i + 1) := by
  have e := posN_eq s a i
  rw [h] at e
  have := (decV_bd e).2.1
  simp only [posN]
  omega
theorem valN_bd (s : ByteArray) (a i : Nat) : valN s a i ≤ 1099511627775 := by
  have e := posN_eq s a i
  cases h : okN s a i with
  | true => rw [h] at e; exact (decV_bd e).2.2.2.2
  | false => rw [h] at e; rw [(decV_zero e).1]; omega
def vals (s : ByteArray) (a i : Nat) : List Int := (List.range i).map fun j => ((valN s a j : Nat) : Int)
theorem vals_len (s : ByteArray) (a i : Nat) : (vals s a i).length = i := by simp [vals]
theorem vals_snoc (s : ByteArray) (a i : Nat) : vals s a (i + 1) = vals s a i ++ [((valN s a i : Nat) : Int)] := by simp [vals, List.range_succ]
theorem vals_get {s : ByteArray} {a i j : Nat} (h : j < i) : (vals s a i)[j]? = some ((valN s a j : Nat) : Int) := by simp [vals, h]
/-- the walk's state: the result's box, an empty profile's box, the profile's box and its two lists, the names -/
structure ESt (w W : World) (g gp : Nat) (ns : List ByteArray) (A0 : Option Addr) (c0 : Nat) (S0 : List Nat) (p : DProfile) (A2 : Option Addr) (c2 : Nat) (S2 : List Nat) (A3 : Option Addr) (c3 : Nat) (S3 : List Nat) : Prop where
  rd : W.heap[g + 1]? = some (.cells #[.slice none 0 0, .slice none 0 0] 27 (0, 0))
  gro : Gro w W
  ret : W.heap[g]? = some (.cells #[.slice none 0 0, .slice none 0 0] 27 (0, 0))
  box : W.heap[gp]? = some (.cells #[.slice A2 p.Stacks.Nodes.length c2, .slice A3 p.Counts.length c3] 27 (0, 0))
  names : Has (strT.sl 9) W [.slice A0 ns.length c0] ns S0
  nodes : Has (tNode.sl 41) W [.slice A2 p.Stacks.Nodes.length c2] p.Stacks.Nodes S2
  counts : Has (intT.sl 3) W [.slice A3 p.Counts.length c3] p.Counts S3
  l0 : ∀ b ∈ S0, g + 1 < b ∧ b < gp
  l2 : ∀ b ∈ S2, gp < b
  l3 : ∀ b ∈ S3, gp < b
  d23 : ∀ b ∈ S2, b ∉ S3
  lt : g + 1 < gp
  wg : w.heap.size ≤ g
theorem ESt.to {w W W' : World} {g gp : Nat} {ns : List ByteArray} {A0 : Option Addr} {c0 : Nat} {S0 : List Nat} {p : DProfile} {A2 : Option Addr} {c2 : Nat} {S2 : List Nat} {A3 : Option Addr} {c3 : Nat} {S3 L : List Nat} (h : ESt w W g gp ns A0 c0 S0 p A2 c2 S2 A3 c3 S3) (ho : OnlyS L W W') (hr : W'.heap[g + 1]? = some (.cells #[.slice none 0 0, .slice none 0 0] 27 (0, 0)))
    (hL : ∀ k ∈ L, k ≠ g ∧ k ≠ gp ∧ k ∉ S0 ∧ k ∉ S2 ∧ k ∉ S3 ∧ w.heap.size ≤ k) : ESt w W' g gp ns A0 c0 S0 p A2 c2 S2 A3 c3 S3 :=
  ⟨hr, ho.gro h.gro (fun k hk => (hL k hk).2.2.2.2.2), (ho.block g (Array.getElem?_eq_some_iff.1 h.ret).1 (fun hm => (hL g hm).1 rfl)).trans h.ret, (ho.block gp (Array.getElem?_eq_some_iff.1 h.box).1 (fun hm => (hL gp hm).2.1 rfl)).trans h.box,
    h.names.keep ho (fun b hb hm => (hL b hm).2.2.1 hb), h.nodes.keep ho (fun b hb hm => (hL b hm).2.2.2.1 hb), h.counts.keep ho (fun b hb hm => (hL b hm).2.2.2.2.1 hb), h.l0, h.l2, h.l3, h.d23, h.lt, h.wg⟩
theorem ESt.more {w W W' : World} {g gp : Nat} {ns : List ByteArray} {A0 : Option Addr} {c0 : Nat} {S0 : List Nat} {p : DProfile} {A2 : Option Addr} {c2 : Nat} {S2 : List Nat} {A3 : Option Addr} {c3 : Nat} {S3 : List Nat} (h : ESt w W g gp ns A0 c0 S0 p A2 c2 S2 A3 c3 S3) (hg : Gro W W') : ESt w W' g gp ns A0 c0 S0 p A2 c2 S2 A3 c3 S3 :=
  h.to (hg.only []) (grow_blk h.rd hg) (by simp)
/-- a node more -/
theorem ESt.push1 {w W W1 W4 : World} {g gp : Nat} {ns : List ByteArray} {A0 : Option Addr} {c0 : Nat} {S0 : List Nat} {p : DProfile} {A2 : Option Addr} {c2 : Nat} {S2 : List Nat} {A3 : Option Addr} {c3 : Nat} {S3 : List Nat} (h : ESt w W g gp ns A0 c0 S0 p A2 c2 S2 A3 c3 S3) (hg : Gro W W1) (hon : OnlyS S2 W1 W4) {A7 : Option Addr} {c7 : Nat} {S7 : List Nat} {x : DNode}
    (hH : Has (tNode.sl 41) W4 [.slice A7 (p.Stacks.Nodes.length + 1) c7] (p.Stacks.Nodes ++ [x]) S7) (hS : ∀ b ∈ S7, b ∈ S2 ∨ W1.heap.size ≤ b) : ESt w (W4.setCell ⟨gp, 0, none⟩ (.slice A7 (p.Stacks.Nodes.length + 1) c7)) g gp ns A0 c0 S0 ⟨⟨p.Stacks.Nodes ++ [x]⟩, p.Counts⟩ A7 c7 S7 A3 c3 S3 := by
  have h1 := h.more hg
  have hlt := h1.lt
  have hwg := h1.wg
  have hb1 := (Array.getElem?_eq_some_iff.1 h1.box).1
  have hgp : gp ∉ S2 := fun hm => by have := h1.l2 _ hm; omega
  have hg1 : g ∉ S2 := fun hm => by have := h1.l2 _ hm; omega
  have hk1 : g + 1 ∉ S2 := fun hm => by have := h1.l2 _ hm; omega
  have hl3 := h1.counts.lt
  have ho : OnlyS [gp] W4 (W4.setCell ⟨gp, 0, none⟩ (.slice A7 (p.Stacks.Nodes.length + 1) c7)) := (OnlyS.refl _ _).setCell (p := ⟨gp, 0, none⟩) (by simp) _
  have hb4 := (hon.block gp hb1 hgp).trans h1.box
  have h7 : ∀ b ∈ S7, gp < b := fun b hb => by
    rcases hS b hb with h | h
    · exact h1.l2 b h
    · omega
  refine ⟨(ho.block (g + 1) (Nat.lt_of_lt_of_le (Array.getElem?_eq_some_iff.1 h1.rd).1 hon.size) (by simp; omega)).trans ((hon.block (g + 1) (Array.getElem?_eq_some_iff.1 h1.rd).1 hk1).trans h1.rd), ho.gro (hon.gro h1.gro (fun b hb => by have := h1.l2 b hb; omega)) (fun b hb => by simp at hb; omega), ?_, by rw [List.length_append]; exact heap_setCell_at hb4 0 _, ?_, by rw [List.length_append]; exact hH.keep ho (fun b hb hm => by have := h7 b hb; simp at hm; omega), ?_, h1.l0, h7, h1.l3, fun b hb hm => ?_, hlt, hwg⟩
  · exact (ho.block g (Nat.lt_of_lt_of_le (Array.getElem?_eq_some_iff.1 h1.ret).1 hon.size) (by simp; omega)).trans ((hon.block g (Array.getElem?_eq_some_iff.1 h1.ret).1 hg1).trans h1.ret)
  · exact (h1.names.keep hon (fun b hb hm => by have := h1.l0 b hb; have := h1.l2 b hm; omega)).keep ho (fun b hb hm => by have := h1.l0 b hb; simp at hm; omega)
  · exact (h1.counts.keep hon (fun b hb hm => h1.d23 b hm hb)).keep ho (fun b hb hm => by have := h1.l3 b hb; simp at hm; omega)
  · rcases hS b hb with h | h
    · exact h1.d23 b h hm
    · have := hl3 b hm; omega
/-- a count more -/
theorem ESt.push2 {w W W1 W4 : World} {g gp : Nat} {ns : List ByteArray} {A0 : Option Addr} {c0 : Nat} {S0 : List Nat} {p : DProfile} {A2 : Option Addr} {c2 : Nat} {S2 : List Nat} {A3 : Option Addr} {c3 : Nat} {S3 : List Nat} (h : ESt w W g gp ns A0 c0 S0 p A2 c2 S2 A3 c3 S3) (hg : Gro W W1) (hon : OnlyS S3 W1 W4) {A7 : Option Addr} {c7 : Nat} {S7 : List Nat} {x : Int}
    (hH : Has (intT.sl 3) W4 [.slice A7 (p.Counts.length + 1) c7] (p.Counts ++ [x]) S7) (hS : ∀ b ∈ S7, b ∈ S3 ∨ W1.heap.size ≤ b) : ESt w (W4.setCell ⟨gp, 1, none⟩ (.slice A7 (p.Counts.length + 1) c7)) g gp ns A0 c0 S0 ⟨p.Stacks, p.Counts ++ [x]⟩ A2 c2 S2 A7 c7 S7 := by
  have h1 := h.more hg
  have hlt := h1.lt
  have hwg := h1.wg
  have hb1 := (Array.getElem?_eq_some_iff.1 h1.box).1
  have hgp : gp ∉ S3 := fun hm => by have := h1.l3 _ hm; omega
  have hg1 : g ∉ S3 := fun hm => by have := h1.l3 _ hm; omega
  have hk1 : g + 1 ∉ S3 := fun hm => by have := h1.l3 _ hm; omega
  have hl2 := h1.nodes.lt
  have ho : OnlyS [gp] W4 (W4.setCell ⟨gp, 1, none⟩ (.slice A7 (p.Counts.length + 1) c7)) := (OnlyS.refl _ _).setCell (p := ⟨gp, 1, none⟩) (by simp) _
  have hb4 := (hon.block gp hb1 hgp).trans h1.box
  have h7 : ∀ b ∈ S7, gp < b := fun b hb => by
    rcases hS b hb with h | h
    · exact h1.l3 b h
    · omega
  refine ⟨(ho.block (g + 1) (Nat.lt_of_lt_of_le (Array.getElem?_eq_some_iff.1 h1.rd).1 hon.size) (by simp; omega)).trans ((hon.block (g + 1) (Array.getElem?_eq_some_iff.1 h1.rd).1 hk1).trans h1.rd), ho.gro (hon.gro h1.gro (fun b hb => by have := h1.l3 b hb; omega)) (fun b hb => by simp at hb; omega), ?_, by rw [List.length_append]; exact heap_setCell_at hb4 1 _, ?_, ?_, by rw [List.length_append]; exact hH.keep ho (fun b hb hm => by have := h7 b hb; simp at hm; omega), h1.l0, h1.l2, h7, fun b hb hm => ?_, hlt, hwg⟩
  · exact (ho.block g (Nat.lt_of_lt_of_le (Array.getElem?_eq_some_iff.1 h1.ret).1 hon.size) (by simp; omega)).trans ((hon.block g (Array.getElem?_eq_some_iff.1 h1.ret).1 hg1).trans h1.ret)
  · exact (h1.names.keep hon (fun b hb hm => by have := h1.l0 b hb; have := h1.l3 b hm; omega)).keep ho (fun b hb hm => by have := h1.l0 b hb; simp at hm; omega)
  · exact (h1.nodes.keep hon (fun b hb hm => h1.d23 b hb hm)).keep ho (fun b hb hm => by have := h1.l2 b hb; simp at hm; omega)
  · rcases hS b hm with h | h
    · exact h1.d23 b hb h
    · have := hl2 b hb; omega
theorem ESt.after1 {w W W1 W4 : World} {g gp : Nat} {ns : List ByteArray} {A0 : Option Addr} {c0 : Nat} {S0 : List Nat} {p : DProfile} {A2 : Option Addr} {c2 : Nat} {S2 : List Nat} {A3 : Option Addr} {c3 : Nat} {S3 : List Nat} (h : ESt w W g gp ns A0 c0 S0 p A2 c2 S2 A3 c3 S3) (hg : Gro W W1) (hon : OnlyS S2 W1 W4) : W4.heap[gp]? = some (.cells #[.slice A2 p.Stacks.Nodes.length c2, .slice A3 p.Counts.length c3] 27 (0, 0)) := by
  have h1 := h.more hg
  exact (hon.block gp (Array.getElem?_eq_some_iff.1 h1.box).1 (fun hm => by have := h1.l2 _ hm; omega)).trans h1.box
theorem ESt.after2 {w W W1 W4 : World} {g gp : Nat} {ns : List ByteArray} {A0 : Option Addr} {c0 : Nat} {S0 : List Nat} {p : DProfile} {A2 : Option Addr} {c2 : Nat} {S2 : List Nat} {A3 : Option Addr} {c3 : Nat} {S3 : List Nat} (h : ESt w W g gp ns A0 c0 S0 p A2 c2 S2 A3 c3 S3) (hg : Gro W W1) (hon : OnlyS S3 W1 W4) : W4.heap[gp]? = some (.cells #[.slice A2 p.Stacks.Nodes.length c2, .slice A3 p.Counts.length c3] 27 (0, 0)) := by
  have h1 := h.more hg
  exact (hon.block gp (Array.getElem?_eq_some_iff.1 h1.box).1 (fun hm => by have := h1.l3 _ hm; omega)).trans h1.box
theorem cell_thru {U W W' : World} {S : List Nat} {g i : Nat} {v : Value} (hc : U.cell? ⟨g, i, none⟩ = some v) (hg : Gro U W) (hon : OnlyS S W W') (hn : g ∉ S) : W'.cell? ⟨g, i, none⟩ = some v := by
  have hl := World.block_lt_of_cell? _ _ hc
  simp only at hl
  obtain ⟨os, d, rfl⟩ := hg
  exact (hon.cell (Nat.lt_of_lt_of_le hl (Gro.of U os d).size) hn i).trans (gro_keeps hc os d)
theorem Has.blk {α : Type} {T : Ty α} {e : TypeId} {W : World} {g off n c : Nat} {xs : List α} {S : List Nat} (h : Has (T.sl e) W [.slice (some ⟨g, off, none⟩) n c] xs S) : g ∈ S := by
  obtain ⟨⟨A', c', ecs, S', h1, _, _, rfl⟩, _⟩ := h
  injection h1 with h1 _
  injection h1 with hA _ _
  subst hA
  simp [blockOf]
theorem set_keeps {W : World} {g gp i j : Nat} {v u : Value} (hc : W.cell? ⟨g, i, none⟩ = some v) (hn : g ≠ gp) : (W.setCell ⟨gp, j, none⟩ u).cell? ⟨g, i, none⟩ = some v := by
  have hl := World.block_lt_of_cell? _ _ hc
  simp only at hl
  exact (((OnlyS.refl [gp] W).setCell (p := ⟨gp, j, none⟩) (by simp) u).cell hl (by simpa using hn) i).trans hc
end Go.Proofs.Ytcomafmiclkmhaa
