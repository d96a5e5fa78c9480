/-
  TYPES, written by a program (gentypefile.py): Frame, Node, Stacks, Profile.
-/
import Derived.Test.YtbhobjepjaeffaaProg
import Derived.Test.YtbhobjepjaeffaaOpen
import Derived.KernelRfl
set_option linter.unusedVariables false
set_option linter.unusedSimpArgs false
namespace Go.Proofs.Ytbhobjepjaeffaa
open Go.RowKit
structure DFrame where
  Name : ByteArray
  Line : Int
  deriving DecidableEq
def tFrame : Ty DFrame := (strT.prod intT).via fun x => (x.Name, x.Line)
theorem tFrame_R {w : World} {B : Nat} {cs : List Value} {x : DFrame} (h : tFrame.R w B cs x) : cs = [.string x.Name, .int .i64 x.Line] ∧ x.Name.size ≤ 9223372036854775807 ∧ I64 x.Line := by
  obtain ⟨_, _, rfl, ⟨rfl, b1_Name⟩, ⟨rfl, b1_Line, b2_Line⟩⟩ := h
  exact ⟨rfl, b1_Name, ⟨b1_Line, b2_Line⟩⟩
theorem tFrame_mkR {w : World} {B : Nat} {x : DFrame}  (h0 : x.Name.size ≤ 9223372036854775807) (h1 : I64 x.Line) : tFrame.R w B [.string x.Name, .int .i64 x.Line] x := by
  exact ⟨[.string x.Name], [.int .i64 x.Line], rfl, ⟨rfl, h0⟩, ⟨rfl, h1.1, h1.2⟩⟩
theorem tFrame_O {w : World} {cs : List Value} {x : DFrame} {S : List Nat} (h : tFrame.O w cs x S) : cs = [.string x.Name, .int .i64 x.Line] ∧ S = [] ∧ x.Name.size ≤ 9223372036854775807 ∧ I64 x.Line := by
  obtain ⟨_, _, _, _, rfl, rfl, ⟨rfl, b1_Name, rfl⟩, ⟨rfl, b1_Line, b2_Line, rfl⟩⟩ := h
  exact ⟨rfl, rfl, b1_Name, ⟨b1_Line, b2_Line⟩⟩
theorem tFrame_mkO {w : World} {x : DFrame}  (h0 : x.Name.size ≤ 9223372036854775807) (h1 : I64 x.Line) : tFrame.O w [.string x.Name, .int .i64 x.Line] x ([]) := by
  exact ⟨[.string x.Name], [.int .i64 x.Line], [], [], rfl, rfl, ⟨rfl, h0, rfl⟩, ⟨rfl, h1.1, h1.2, rfl⟩⟩
structure DNode where
  Parent : Int
  Frame : DFrame
  deriving DecidableEq
def tNode : Ty DNode := (intT.prod tFrame).via fun x => (x.Parent, x.Frame)
theorem tNode_R {w : World} {B : Nat} {cs : List Value} {x : DNode} (h : tNode.R w B cs x) : cs = [.int .i64 x.Parent, .string x.Frame.Name, .int .i64 x.Frame.Line] ∧ I64 x.Parent ∧ x.Frame.Name.size ≤ 9223372036854775807 ∧ I64 x.Frame.Line := by
  obtain ⟨_, _, rfl, ⟨rfl, b1_Parent, b2_Parent⟩, ⟨_, _, rfl, ⟨rfl, b1_Frame_Name⟩, ⟨rfl, b1_Frame_Line, b2_Frame_Line⟩⟩⟩ := h
  exact ⟨rfl, ⟨b1_Parent, b2_Parent⟩, b1_Frame_Name, ⟨b1_Frame_Line, b2_Frame_Line⟩⟩
theorem tNode_mkR {w : World} {B : Nat} {x : DNode}  (h0 : I64 x.Parent) (h1 : x.Frame.Name.size ≤ 9223372036854775807) (h2 : I64 x.Frame.Line) : tNode.R w B [.int .i64 x.Parent, .string x.Frame.Name, .int .i64 x.Frame.Line] x := by
  exact ⟨[.int .i64 x.Parent], [.string x.Frame.Name, .int .i64 x.Frame.Line], rfl, ⟨rfl, h0.1, h0.2⟩, ⟨[.string x.Frame.Name], [.int .i64 x.Frame.Line], rfl, ⟨rfl, h1⟩, ⟨rfl, h2.1, h2.2⟩⟩⟩
theorem tNode_O {w : World} {cs : List Value} {x : DNode} {S : List Nat} (h : tNode.O w cs x S) : cs = [.int .i64 x.Parent, .string x.Frame.Name, .int .i64 x.Frame.Line] ∧ S = [] ∧ I64 x.Parent ∧ x.Frame.Name.size ≤ 9223372036854775807 ∧ I64 x.Frame.Line := by
  obtain ⟨_, _, _, _, rfl, rfl, ⟨rfl, b1_Parent, b2_Parent, rfl⟩, ⟨_, _, _, _, rfl, rfl, ⟨rfl, b1_Frame_Name, rfl⟩, ⟨rfl, b1_Frame_Line, b2_Frame_Line, rfl⟩⟩⟩ := h
  exact ⟨rfl, rfl, ⟨b1_Parent, b2_Parent⟩, b1_Frame_Name, ⟨b1_Frame_Line, b2_Frame_Line⟩⟩
theorem tNode_mkO {w : World} {x : DNode}  (h0 : I64 x.Parent) (h1 : x.Frame.Name.size ≤ 9223372036854775807) (h2 : I64 x.Frame.Line) : tNode.O w [.int .i64 x.Parent, .string x.Frame.Name, .int .i64 x.Frame.Line] x ([]) := by
  exact ⟨[.int .i64 x.Parent], [.string x.Frame.Name, .int .i64 x.Frame.Line], [], ([] ++ []), rfl, rfl, ⟨rfl, h0.1, h0.2, rfl⟩, ⟨[.string x.Frame.Name], [.int .i64 x.Frame.Line], [], [], rfl, rfl, ⟨rfl, h1, rfl⟩, ⟨rfl, h2.1, h2.2, rfl⟩⟩⟩
structure DStacks where
  Nodes : List DNode
  deriving DecidableEq
structure DProfile where
  Stacks : DStacks
  Counts : List Int
  deriving DecidableEq
end Go.Proofs.Ytbhobjepjaeffaa
