/-
  LISTS OF STRUCTS, written by a program (genlist.py): Frame, Node: the laws' own toXS, szXS, eqXS, markXS, heldXS.
-/
import Derived.Test.YtbhobjepjaeffaaRowsPut
import Derived.Test.YtbhobjepjaeffaaAppend
import Derived.Test.YtbhobjepjaeffaaFnFrame
import Derived.Deep.RegionHeld3
set_option linter.unusedVariables false
set_option linter.unusedSimpArgs false
namespace Go.Proofs.Ytbhobjepjaeffaa
open Go.RowKit
theorem atFrame {e : TypeId} {w : World} {B : Nat} {A : Option Addr} {n c : Nat} {xs : List DFrame} (h : (tFrame.sl e).R w B [.slice A n c] xs) {k : Nat} (hk : k < xs.length) :
    ∃ g off x , A = some ⟨g, off, none⟩ ∧ g < B ∧ xs[k]? = some x ∧ w.cell? ⟨g, off + k * 2, none⟩ = some (.string x.Name) ∧ w.cell? ⟨g, off + k * 2 + 1, none⟩ = some (.int .i64 x.Line) ∧ x.Name.size ≤ 9223372036854775807 ∧ I64 x.Line := by
  obtain ⟨g, off, x, ec, h1, hB, h2, h3, h4⟩ := elem_at h hk
  obtain ⟨rfl, hf⟩ := tFrame_R h3
  exact ⟨g, off, x, h1, hB, h2, h4 0 _ rfl, h4 1 _ rfl, hf⟩
def mkEFrame (_ : DFrame) (k : Int) : DFrame := ⟨markTx k, k + 1⟩
def mkFrameS (xs : List DFrame) (k : Int) : List DFrame := mkL mkEFrame (fun _ => 2) xs k
def cntFrameS (xs : List DFrame) : Nat := xs.length * 2
theorem mkFrameS_length (xs : List DFrame) (k : Int) : (mkFrameS xs k).length = xs.length := mkL_length _ _
theorem flatFrame : Flat tFrame := flat_via _ (flat_prod flat_str flat_int)
theorem atNode {e : TypeId} {w : World} {B : Nat} {A : Option Addr} {n c : Nat} {xs : List DNode} (h : (tNode.sl e).R w B [.slice A n c] xs) {k : Nat} (hk : k < xs.length) :
    ∃ g off x , A = some ⟨g, off, none⟩ ∧ g < B ∧ xs[k]? = some x ∧ w.cell? ⟨g, off + k * 3, none⟩ = some (.int .i64 x.Parent) ∧ w.cell? ⟨g, off + k * 3 + 1, none⟩ = some (.string x.Frame.Name) ∧ w.cell? ⟨g, off + k * 3 + 2, none⟩ = some (.int .i64 x.Frame.Line) ∧ I64 x.Parent ∧ x.Frame.Name.size ≤ 9223372036854775807 ∧ I64 x.Frame.Line := by
  obtain ⟨g, off, x, ec, h1, hB, h2, h3, h4⟩ := elem_at h hk
  obtain ⟨rfl, hf⟩ := tNode_R h3
  exact ⟨g, off, x, h1, hB, h2, h4 0 _ rfl, h4 1 _ rfl, h4 2 _ rfl, hf⟩
def mkENode (_ : DNode) (k : Int) : DNode := ⟨k, ⟨markTx (k + 1), k + 1 + 1⟩⟩
def mkNodeS (xs : List DNode) (k : Int) : List DNode := mkL mkENode (fun _ => 3) xs k
def cntNodeS (xs : List DNode) : Nat := xs.length * 3
theorem mkNodeS_length (xs : List DNode) (k : Int) : (mkNodeS xs k).length = xs.length := mkL_length _ _
theorem flatNode : Flat tNode := flat_via _ (flat_prod flat_int flatFrame)
end Go.Proofs.Ytbhobjepjaeffaa
