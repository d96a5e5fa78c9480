/-
  BOXES: a box of two cells in a world that is known by what it holds.
-/
import Derived.Test.YtbhobjepjaeffaaCut
import Derived.Test.YtbhobjepjaeffaaRowsPut
set_option linter.unusedVariables false
set_option linter.unusedSimpArgs false
namespace Go.Proofs.Ytbhobjepjaeffaa
open Go.RowKit
theorem box2 {W : World} {g : Nat} {a b : Value} {e : TypeId} (h : W.heap[g]? = some (.cells #[a, b] e (0, 0))) :
    W.cell? ⟨g, 0, none⟩ = some a ∧ W.cell? ⟨g, 1, none⟩ = some b ∧ W.frozen? ⟨g, 0, none⟩ = false ∧ W.frozen? ⟨g, 1, none⟩ = false ∧ g < W.heap.size := by
  refine ⟨?_, ?_, by simp [World.frozen?, h], by simp [World.frozen?, h], (Array.getElem?_eq_some_iff.1 h).1⟩
  all_goals
    rw [cell_of_row W g _ _ _ (0, 0) h]
    rfl
theorem set2 {W : World} {g : Nat} {p q : Value} {e : TypeId} (h : W.heap[g]? = some (.cells #[p, q] e (0, 0))) (a b : Value) :
    ((W.setCell ⟨g, 0, none⟩ a).setCell ⟨g, 1, none⟩ b).heap[g]? = some (.cells #[a, b] e (0, 0)) ∧ OnlyS [g] W ((W.setCell ⟨g, 0, none⟩ a).setCell ⟨g, 1, none⟩ b) :=
  ⟨heap_setCell_at (heap_setCell_at h 0 a) 1 b, ((OnlyS.refl _ _).setCell (p := ⟨g, 0, none⟩) (by simp) a).setCell (p := ⟨g, 1, none⟩) (by simp) b⟩
theorem only_below {a b : World} {g lo : Nat} (h : OnlyS [g] a b) (hl : lo ≤ g) (hg : g < a.heap.size) : Below lo a b :=
  ⟨h.os, h.tape, h.output, h.size, fun i hi => h.block i (by omega) (by simp; omega)⟩
theorem FrN.onlyL {α : Type} {T : Ty α} {lo hi : Nat} {L : List Nat} {a b : World} {cs : List Value} {x : α} (h : FrN T lo hi a cs x) (hs : OnlyS L a b) (hk : ∀ k ∈ L, k < lo) : FrN T lo hi b cs x := by
  obtain ⟨S, h1, h2, h3⟩ := h
  exact ⟨S, T.keepO h1 (fun j hj => hs.block j (T.ltO h1 j hj) (fun hm => by have := h3 j hj; have := hk j hm; omega)), h2, h3⟩
theorem grow_blk {S Y : World} {k : Nat} {o : Obj} (h : S.heap[k]? = some o) (hG : Gro S Y) : Y.heap[k]? = some o :=
  (hG.block (Array.getElem?_eq_some_iff.1 h).1).trans h
/-- a box of four numbers -/
theorem box4 {W : World} {g : Nat} {a b c d : Value} {e : TypeId} (h : W.heap[g]? = some (.cells #[a, b, c, d] e (0, 0))) :
    W.cell? ⟨g, 0, none⟩ = some a ∧ W.cell? ⟨g, 1, none⟩ = some b ∧ W.cell? ⟨g, 2, none⟩ = some c ∧ W.cell? ⟨g, 3, none⟩ = some d ∧ (∀ j, W.frozen? ⟨g, j, none⟩ = false) := by
  refine ⟨?_, ?_, ?_, ?_, fun j => by simp [World.frozen?, h]⟩
  all_goals
    rw [cell_of_row W g _ _ _ (0, 0) h]
    rfl
theorem set4 {W : World} {g : Nat} {p q r s : Value} {e : TypeId} (h : W.heap[g]? = some (.cells #[p, q, r, s] e (0, 0))) (a b c d : Value) :
    ((((W.setCell ⟨g, 0, none⟩ a).setCell ⟨g, 1, none⟩ b).setCell ⟨g, 2, none⟩ c).setCell ⟨g, 3, none⟩ d).heap[g]? = some (.cells #[a, b, c, d] e (0, 0)) ∧ OnlyS [g] W ((((W.setCell ⟨g, 0, none⟩ a).setCell ⟨g, 1, none⟩ b).setCell ⟨g, 2, none⟩ c).setCell ⟨g, 3, none⟩ d) :=
  ⟨heap_setCell_at (heap_setCell_at (heap_setCell_at (heap_setCell_at h 0 a) 1 b) 2 c) 3 d, ((((OnlyS.refl _ _).setCell (p := ⟨g, 0, none⟩) (by simp) a).setCell (p := ⟨g, 1, none⟩) (by simp) b).setCell (p := ⟨g, 2, none⟩) (by simp) c).setCell (p := ⟨g, 3, none⟩) (by simp) d⟩
end Go.Proofs.Ytbhobjepjaeffaa
