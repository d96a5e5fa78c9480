/-
  STACKS, PART 2: FindStack, StackAt, StackDepth of the program and of the reference.
-/
import Derived.Test.YtfhcegblnhagjaaStacks
set_option linter.unusedVariables false
set_option linter.unusedSimpArgs false
namespace Go.Proofs.Ytfhcegblnhagjaa
open Go.RowKit
theorem fresh_one {α : Type} {T : Ty α} {e : TypeId} (hf : Flat T) {W0 W W1 : World} {B : Nat} {ec : List Value} {x : α} (hR : T.R W1 B ec x) (hg : Gro W0 W) {g : Nat} (hgW : g = W.heap.size) : Fresh (T.sl e) W0 (W.alloc (.cells ec.toArray e)) [.slice (some ⟨g, 0, none⟩) 1 1] [x] := by
  subst hgW
  refine ⟨[W.heap.size], own_made (xs := [x]) (heap_alloc_new W _) (show Rows T _ ec.toArray.toList [x] [] from ⟨ec, [], [], [], by simp, rfl, hf hR _, rfl, rfl⟩) (by simp), by simp, fun b hb => ?_⟩
  simp at hb
  subst hb
  exact hg.size
def findL (ns : List DNode) : Int → List DFrame → Int
  | a, [] => a
  | a, f :: fs => if childV ns a f < 0 then -1 else findL ns (childV ns a f) fs
def findStack (t : DStacks) (l : List DFrame) : Int := if stacksOk t then findL t.Nodes (-1) l else -1
theorem findL_bd (ns : List DNode) (a : Int) (l : List DFrame) (h1 : -1 ≤ a) (h2 : a < ns.length) : -1 ≤ findL ns a l ∧ findL ns a l < ns.length := by
  induction l generalizing a with
  | nil => exact ⟨h1, h2⟩
  | cons f fs ih =>
    simp only [findL]
    split
    · omega
    · have := child_lt (ns := ns) (p := a) (f := f)
      exact ih _ this.1 this.2
theorem drop_at {α : Type} {xs : List α} {j : Nat} {x : α} (h : xs[j]? = some x) : xs.drop j = x :: xs.drop (j + 1) := by
  have hj := (List.getElem?_eq_some_iff.1 h).1
  rw [List.drop_eq_getElem_cons hj, (List.getElem?_eq_some_iff.1 h).2]
def upL (ns : List DNode) : Nat → Int → List DFrame → List DFrame
  | 0, _, acc => acc
  | n + 1, k, acc => if k < 0 then acc else match ns[k.toNat]? with
    | some x => upL ns n x.Parent (x.Frame :: acc)
    | none => acc
def stackAt (t : DStacks) (k : Int) : List DFrame := if stacksOk t && btw k 0 ((t.Nodes.length : Int) - 1) then upL t.Nodes t.Nodes.length k [] else []
theorem stacksOk_node {t : DStacks} (h : stacksOk t = true) {j : Nat} {x : DNode} (hx : t.Nodes[j]? = some x) : -1 ≤ x.Parent ∧ x.Parent ≤ (j : Int) - 1 ∧ frameOk x.Frame = true := by
  have hj := (List.getElem?_eq_some_iff.1 hx).1
  have := List.all_eq_true.1 h j (List.mem_range.2 hj)
  unfold nodeOk at this
  rw [hx] at this
  simp only [Bool.and_eq_true, btw_iff] at this
  exact ⟨this.1.1, this.1.2, this.2.1⟩
theorem upL_len (ns : List DNode) (n : Nat) (k : Int) (acc : List DFrame) : (upL ns n k acc).length ≤ n + acc.length := by
  induction n generalizing k acc with
  | zero => simp [upL]
  | succ n ih =>
    simp only [upL]
    split
    · omega
    · split
      · rename_i x _
        have := ih x.Parent (x.Frame :: acc)
        simp only [List.length_cons] at this
        omega
      · omega
theorem stackAt_len (t : DStacks) (k : Int) : (stackAt t k).length ≤ t.Nodes.length := by
  unfold stackAt
  split
  · exact upL_len _ _ _ _
  · simp
end Go.Proofs.Ytfhcegblnhagjaa
