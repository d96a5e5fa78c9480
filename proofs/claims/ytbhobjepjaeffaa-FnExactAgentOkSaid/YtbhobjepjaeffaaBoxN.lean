/-
  BOXN: boxes of three, five and seven cells in a world that is known by what it holds.
-/
import Derived.Test.YtbhobjepjaeffaaBoxes
import Derived.Test.YtbhobjepjaeffaaOwn
set_option linter.unusedVariables false
set_option linter.unusedSimpArgs false
namespace Go.Proofs.Ytbhobjepjaeffaa
open Go.RowKit
theorem set_at {W : World} {g i : Nat} {cur cur' : Array Value} {e : TypeId} {v : Value} (h : W.heap[g]? = some (.cells cur e (0, 0))) (hc : cur.setIfInBounds i v = cur') : (W.setCell ⟨g, i, none⟩ v).heap[g]? = some (.cells cur' e (0, 0)) := by
  rw [heap_setCell_at h i v, hc]
theorem set3 {W : World} {g : Nat} {o0 o1 o2 : Value} {e : TypeId} (h : W.heap[g]? = some (.cells #[o0, o1, o2] e (0, 0))) (v0 v1 v2 : Value) :
    (((W.setCell ⟨g, 0, none⟩ v0).setCell ⟨g, 1, none⟩ v1).setCell ⟨g, 2, none⟩ v2).heap[g]? = some (.cells #[v0, v1, v2] e (0, 0)) ∧ OnlyS [g] W (((W.setCell ⟨g, 0, none⟩ v0).setCell ⟨g, 1, none⟩ v1).setCell ⟨g, 2, none⟩ v2) :=
  ⟨(set_at (i := 2) (v := v2) (cur' := #[v0, v1, v2]) (set_at (i := 1) (v := v1) (cur' := #[v0, v1, o2]) (set_at (i := 0) (v := v0) (cur' := #[v0, o1, o2]) h rfl) rfl) rfl), ((((OnlyS.refl _ _).setCell (p := ⟨g, 0, none⟩) (by simp) v0).setCell (p := ⟨g, 1, none⟩) (by simp) v1).setCell (p := ⟨g, 2, none⟩) (by simp) v2)⟩
theorem row3 {W : World} {g : Nat} {o0 o1 o2 : Value} {e : TypeId} (h : W.heap[g]? = some (.cells #[o0, o1, o2] e (0, 0))) :
    W.cell? ⟨g, 0, none⟩ = some o0 ∧ W.cell? ⟨g, 1, none⟩ = some o1 ∧ W.cell? ⟨g, 2, none⟩ = some o2 ∧ (∀ j, W.frozen? ⟨g, j, none⟩ = false) ∧ g < W.heap.size := by
  refine ⟨?_, ?_, ?_, fun j => by simp [World.frozen?, h], (Array.getElem?_eq_some_iff.1 h).1⟩
  all_goals
    rw [cell_of_row W g _ _ _ (0, 0) h]
    rfl
theorem set5 {W : World} {g : Nat} {o0 o1 o2 o3 o4 : Value} {e : TypeId} (h : W.heap[g]? = some (.cells #[o0, o1, o2, o3, o4] e (0, 0))) (v0 v1 v2 v3 v4 : Value) :
    (((((W.setCell ⟨g, 0, none⟩ v0).setCell ⟨g, 1, none⟩ v1).setCell ⟨g, 2, none⟩ v2).setCell ⟨g, 3, none⟩ v3).setCell ⟨g, 4, none⟩ v4).heap[g]? = some (.cells #[v0, v1, v2, v3, v4] e (0, 0)) ∧ OnlyS [g] W (((((W.setCell ⟨g, 0, none⟩ v0).setCell ⟨g, 1, none⟩ v1).setCell ⟨g, 2, none⟩ v2).setCell ⟨g, 3, none⟩ v3).setCell ⟨g, 4, none⟩ v4) :=
  ⟨(set_at (i := 4) (v := v4) (cur' := #[v0, v1, v2, v3, v4]) (set_at (i := 3) (v := v3) (cur' := #[v0, v1, v2, v3, o4]) (set_at (i := 2) (v := v2) (cur' := #[v0, v1, v2, o3, o4]) (set_at (i := 1) (v := v1) (cur' := #[v0, v1, o2, o3, o4]) (set_at (i := 0) (v := v0) (cur' := #[v0, o1, o2, o3, o4]) h rfl) rfl) rfl) rfl) rfl), ((((((OnlyS.refl _ _).setCell (p := ⟨g, 0, none⟩) (by simp) v0).setCell (p := ⟨g, 1, none⟩) (by simp) v1).setCell (p := ⟨g, 2, none⟩) (by simp) v2).setCell (p := ⟨g, 3, none⟩) (by simp) v3).setCell (p := ⟨g, 4, none⟩) (by simp) v4)⟩
theorem row5 {W : World} {g : Nat} {o0 o1 o2 o3 o4 : Value} {e : TypeId} (h : W.heap[g]? = some (.cells #[o0, o1, o2, o3, o4] e (0, 0))) :
    W.cell? ⟨g, 0, none⟩ = some o0 ∧ W.cell? ⟨g, 1, none⟩ = some o1 ∧ W.cell? ⟨g, 2, none⟩ = some o2 ∧ W.cell? ⟨g, 3, none⟩ = some o3 ∧ W.cell? ⟨g, 4, none⟩ = some o4 ∧ (∀ j, W.frozen? ⟨g, j, none⟩ = false) ∧ g < W.heap.size := by
  refine ⟨?_, ?_, ?_, ?_, ?_, fun j => by simp [World.frozen?, h], (Array.getElem?_eq_some_iff.1 h).1⟩
  all_goals
    rw [cell_of_row W g _ _ _ (0, 0) h]
    rfl
theorem set7 {W : World} {g : Nat} {o0 o1 o2 o3 o4 o5 o6 : Value} {e : TypeId} (h : W.heap[g]? = some (.cells #[o0, o1, o2, o3, o4, o5, o6] e (0, 0))) (v0 v1 v2 v3 v4 v5 v6 : Value) :
    (((((((W.setCell ⟨g, 0, none⟩ v0).setCell ⟨g, 1, none⟩ v1).setCell ⟨g, 2, none⟩ v2).setCell ⟨g, 3, none⟩ v3).setCell ⟨g, 4, none⟩ v4).setCell ⟨g, 5, none⟩ v5).setCell ⟨g, 6, none⟩ v6).heap[g]? = some (.cells #[v0, v1, v2, v3, v4, v5, v6] e (0, 0)) ∧ OnlyS [g] W (((((((W.setCell ⟨g, 0, none⟩ v0).setCell ⟨g, 1, none⟩ v1).setCell ⟨g, 2, none⟩ v2).setCell ⟨g, 3, none⟩ v3).setCell ⟨g, 4, none⟩ v4).setCell ⟨g, 5, none⟩ v5).setCell ⟨g, 6, none⟩ v6) :=
  ⟨(set_at (i := 6) (v := v6) (cur' := #[v0, v1, v2, v3, v4, v5, v6]) (set_at (i := 5) (v := v5) (cur' := #[v0, v1, v2, v3, v4, v5, o6]) (set_at (i := 4) (v := v4) (cur' := #[v0, v1, v2, v3, v4, o5, o6]) (set_at (i := 3) (v := v3) (cur' := #[v0, v1, v2, v3, o4, o5, o6]) (set_at (i := 2) (v := v2) (cur' := #[v0, v1, v2, o3, o4, o5, o6]) (set_at (i := 1) (v := v1) (cur' := #[v0, v1, o2, o3, o4, o5, o6]) (set_at (i := 0) (v := v0) (cur' := #[v0, o1, o2, o3, o4, o5, o6]) h rfl) rfl) rfl) rfl) rfl) rfl) rfl), ((((((((OnlyS.refl _ _).setCell (p := ⟨g, 0, none⟩) (by simp) v0).setCell (p := ⟨g, 1, none⟩) (by simp) v1).setCell (p := ⟨g, 2, none⟩) (by simp) v2).setCell (p := ⟨g, 3, none⟩) (by simp) v3).setCell (p := ⟨g, 4, none⟩) (by simp) v4).setCell (p := ⟨g, 5, none⟩) (by simp) v5).setCell (p := ⟨g, 6, none⟩) (by simp) v6)⟩
theorem row7 {W : World} {g : Nat} {o0 o1 o2 o3 o4 o5 o6 : Value} {e : TypeId} (h : W.heap[g]? = some (.cells #[o0, o1, o2, o3, o4, o5, o6] e (0, 0))) :
    W.cell? ⟨g, 0, none⟩ = some o0 ∧ W.cell? ⟨g, 1, none⟩ = some o1 ∧ W.cell? ⟨g, 2, none⟩ = some o2 ∧ W.cell? ⟨g, 3, none⟩ = some o3 ∧ W.cell? ⟨g, 4, none⟩ = some o4 ∧ W.cell? ⟨g, 5, none⟩ = some o5 ∧ W.cell? ⟨g, 6, none⟩ = some o6 ∧ (∀ j, W.frozen? ⟨g, j, none⟩ = false) ∧ g < W.heap.size := by
  refine ⟨?_, ?_, ?_, ?_, ?_, ?_, ?_, fun j => by simp [World.frozen?, h], (Array.getElem?_eq_some_iff.1 h).1⟩
  all_goals
    rw [cell_of_row W g _ _ _ (0, 0) h]
    rfl
theorem keep_thru {U W W' : World} {S : List Nat} {g i : Nat} {v : Value} (hc : U.cell? ⟨g, i, none⟩ = some v) (hg : Gro U W) (hon : OnlyS S W W') (hn : g ∉ S) : W'.cell? ⟨g, i, none⟩ = some v := by
  have hl := World.block_lt_of_cell? _ _ hc
  simp only at hl
  obtain ⟨os, d, rfl⟩ := hg
  exact (hon.cell (Nat.lt_of_lt_of_le hl (Gro.of U os d).size) hn i).trans (gro_keeps hc os d)
theorem keep_set {W : World} {g gp i j : Nat} {v u : Value} (hc : W.cell? ⟨g, i, none⟩ = some v) (hn : g ≠ gp) : (W.setCell ⟨gp, j, none⟩ u).cell? ⟨g, i, none⟩ = some v := by
  have hl := World.block_lt_of_cell? _ _ hc
  simp only at hl
  exact (((OnlyS.refl [gp] W).setCell (p := ⟨gp, j, none⟩) (by simp) u).cell hl (by simpa using hn) i).trans hc
theorem frz_thru {U W W' : World} {S : List Nat} {g : Nat} {o : Obj} (hb : U.heap[g]? = some o) (hg : Gro U W) (hon : OnlyS S W W') (hn : g ∉ S) : W'.heap[g]? = some o := by
  have hl := (Array.getElem?_eq_some_iff.1 hb).1
  exact (hon.block g (Nat.lt_of_lt_of_le hl hg.size) hn).trans (grow_blk hb hg)
end Go.Proofs.Ytbhobjepjaeffaa
