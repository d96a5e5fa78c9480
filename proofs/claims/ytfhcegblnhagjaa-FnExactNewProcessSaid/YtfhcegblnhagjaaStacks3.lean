/-
  STACKS, PART 3: InternStack of the program and of the reference.
-/
import Derived.Test.YtfhcegblnhagjaaStacks2
import Derived.Test.YtfhcegblnhagjaaAppend2
import Derived.Deep.RegionLaw
import Derived.Deep.RegionHeld3
set_option linter.unusedVariables false
set_option linter.unusedSimpArgs false
namespace Go.Proofs.Ytfhcegblnhagjaa
open Go.RowKit
theorem Same.base_box {a b : World} {os os2 : Array Obj} {o : Obj} {d d' d2 d3 n m : Nat} (h : b.heap.size = a.heap.size) (hn : a.heap.size ≤ n) : Same n m (Go.Proofs.Ytfhcegblnhagjaa.gro ((Go.Proofs.Ytfhcegblnhagjaa.gro a os d).alloc o) os2 d2) (Go.Proofs.Ytfhcegblnhagjaa.gro ((Go.Proofs.Ytfhcegblnhagjaa.gro b os d').alloc o) os2 d3) := by
  intro k hk _
  simp only [Go.Proofs.Ytfhcegblnhagjaa.gro, World.alloc]
  have e : ∀ x : Array Obj, x.size ≤ k → ((x ++ os).push o ++ os2)[k]? = (os.push o ++ os2)[k - x.size]? := by
    intro x hx
    rw [show (x ++ os).push o ++ os2 = x ++ (os.push o ++ os2) from by simp, Array.getElem?_append_right hx]
  rw [e _ (by omega), e _ (by omega), h]
theorem Fr2.base_box {α : Type} {T : Ty α} {a b : World} {os os2 : Array Obj} {o : Obj} {d d' d2 d3 hi n : Nat} {cs : List Value} {x : α} (h : Fr2 T a hi n (Go.Proofs.Ytfhcegblnhagjaa.gro ((Go.Proofs.Ytfhcegblnhagjaa.gro a os d).alloc o) os2 d2) cs x) (hs : b.heap.size = a.heap.size) (hn : a.heap.size ≤ n) :
    Fr2 T a hi n (Go.Proofs.Ytfhcegblnhagjaa.gro ((Go.Proofs.Ytfhcegblnhagjaa.gro b os d').alloc o) os2 d3) cs x :=
  h.same (Same.base_box hs (Nat.le_refl _)) (Same.base_box hs hn)
theorem Fr2.rebox {α : Type} {T : Ty α} {W0 X : World} {os os2 : Array Obj} {o o' : Obj} {d d2 hi n : Nat} {cs : List Value} {x : α} (h : Fr2 T W0 hi n (Go.Proofs.Ytfhcegblnhagjaa.gro ((Go.Proofs.Ytfhcegblnhagjaa.gro X os d).alloc o) os2 d2) cs x) (h1 : hi ≤ X.heap.size + os.size) (h2 : X.heap.size + os.size < n) :
    Fr2 T W0 hi n (Go.Proofs.Ytfhcegblnhagjaa.gro ((Go.Proofs.Ytfhcegblnhagjaa.gro X os d).alloc o') os2 d2) cs x := by
  have key : ∀ k, k ≠ X.heap.size + os.size → (Go.Proofs.Ytfhcegblnhagjaa.gro ((Go.Proofs.Ytfhcegblnhagjaa.gro X os d).alloc o') os2 d2).heap[k]? = (Go.Proofs.Ytfhcegblnhagjaa.gro ((Go.Proofs.Ytfhcegblnhagjaa.gro X os d).alloc o) os2 d2).heap[k]? := by
    intro k hk
    simp only [Go.Proofs.Ytfhcegblnhagjaa.gro, World.alloc]
    by_cases h : k < X.heap.size + os.size + 1
    · rw [Array.getElem?_append_left (by simp; omega), Array.getElem?_append_left (by simp; omega), Array.getElem?_push_lt (by simp; omega), Array.getElem?_push_lt (by simp; omega)]
    · rw [Array.getElem?_append_right (by simp; omega), Array.getElem?_append_right (by simp; omega)]
      simp
  exact h.same (fun k _ hk => key k (by omega)) (fun k hk _ => key k (by omega))
theorem gro_fold' (X : World) (os os1 : Array Obj) (d d1 : Nat) (b : Obj) : (gro (gro X os d) os1 d1).alloc b = gro X ((os ++ os1).push b) d1 := by rw [gro_gro, gro_alloc]
def internL : List DNode → Int → List DFrame → List DNode × Int
  | ns, a, [] => (ns, a)
  | ns, a, f :: fs => if childV ns a f < 0 then internL (ns ++ [⟨a, f⟩]) ns.length fs else internL ns (childV ns a f) fs
def internStack (t : DStacks) (l : List DFrame) : DStacks × Int := if stacksOk t && (!l.isEmpty && l.all frameOk) then (⟨(internL t.Nodes (-1) l).1⟩, (internL t.Nodes (-1) l).2) else (t, -1)
theorem internL_len (ns : List DNode) (a : Int) (l : List DFrame) : ns.length ≤ (internL ns a l).1.length ∧ (internL ns a l).1.length ≤ ns.length + l.length := by
  induction l generalizing ns a with
  | nil => simp [internL]
  | cons f fs ih =>
    simp only [internL]
    split
    · have := ih (ns ++ [⟨a, f⟩]) ns.length
      simp only [List.length_append, List.length_cons, List.length_nil] at this
      simp only [List.length_cons]
      omega
    · have := ih ns (childV ns a f)
      simp only [List.length_cons]
      omega
theorem internStack_len (t : DStacks) (l : List DFrame) : (internStack t l).1.Nodes.length ≤ t.Nodes.length + l.length := by
  unfold internStack
  split
  · exact (internL_len _ _ _).2
  · exact Nat.le_add_right _ _
end Go.Proofs.Ytfhcegblnhagjaa
