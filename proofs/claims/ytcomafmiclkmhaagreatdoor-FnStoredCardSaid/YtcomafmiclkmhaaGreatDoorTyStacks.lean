/-
  TYPES, written by a program (gentypefile.py): Frame, Node, Stacks, Profile.
-/
import Derived.Test.YtcomafmiclkmhaaGreatDoorProg
import Derived.Test.YtcomafmiclkmhaaGreatDoorOpen
import Derived.KernelRfl
set_option linter.unusedVariables false
set_option linter.unusedSimpArgs false
namespace Go.Proofs.YtcomafmiclkmhaaGreatDoor
open Go.RowKit
structure DFrame where
  Name : ByteArray
  Line : Int
  deriving DecidableEq
def tFrame : Ty DFrame := (strT.prod intT).via fun x => (x.Name, x.Line)
theorem tFrame_R {w : World} {B : Nat} {cs : List Value} {x : DFrame} (h : tFrame.R w B cs x) : cs = [.string x.Name, .int .i64 x.Line] ∧ x.Name.size ≤ 9223372036854775807 ∧ I64 x.Line := by
  obtain ⟨_, _, rfl, ⟨rfl, b1_Name⟩, ⟨rfl, b1_Line, b2_Line⟩⟩ := h
  exact ⟨rfl, b1_Name, ⟨b1_Line, b2_Line⟩⟩
theorem tFrame_mkR {w : World} {B : Nat} {x : DFrame}  (h0 : x.Name.size ≤ 9223372036854775807) (h1 : I64 x.Line) : tFrame.R w B [.string x.Name, .int .i64 x.Line] x := by
  exact ⟨[.string x.Name], [.int .i64 x.Line], rfl, ⟨rfl, h0⟩, ⟨rfl, h1.1, h1.2⟩⟩
theorem tFrame_O {w : World} {cs : List Value} {x : DFrame} {S : List Nat} (h : tFrame.O w cs x S) : cs = [.string x.Name, .int .i64 x.Line] ∧ S = [] ∧ x.Name.size ≤ 9223372036854775807 ∧ I64 x.Line := by
  obtain ⟨_, _, _, _, rfl, rfl, ⟨rfl, b1_Name, rfl⟩, ⟨rfl, b1_Line, b2_Line, rfl⟩⟩ := h
  exact ⟨rfl, rfl, b1_Name, ⟨b1_Line, b2_Line⟩⟩
theorem tFrame_mkO {w : World} {x : DFrame}  (h0 : x.Name.size ≤ 9223372036854775807) (h1 : I64 x.Line) : tFrame.O w [.string x.Name, .int .i64 x.Line] x ([]) := by
  exact ⟨[.string x.Name], [.int .i64 x.Line], [], [], rfl, rfl, ⟨rfl, h0, rfl⟩, ⟨rfl, h1.1, h1.2, rfl⟩⟩
structure DNode where
  Parent : Int
  Frame : DFrame
  deriving DecidableEq
def tNode : Ty DNode := (intT.prod tFrame).via fun x => (x.Parent, x.Frame)
theorem tNode_R {w : World} {B : Nat} {cs : List Value} {x : DNode} (h : tNode.R w B cs x) : cs = [.int .i64 x.Parent, .string x.Frame.Name, .int .i64 x.Frame.Line] ∧ I64 x.Parent ∧ x.Frame.Name.size ≤ 9223372036854775807 ∧ I64 x.Frame.Line := by
  obtain ⟨_, _, rfl, ⟨rfl, b1_Parent, b2_Parent⟩, ⟨_, _, rfl, ⟨rfl, b1_Frame_Name⟩, ⟨rfl, b1_Frame_Line, b2_Frame_Line⟩⟩⟩ := h
  exact ⟨rfl, ⟨b1_Parent, b2_Parent⟩, b1_Frame_Name, ⟨b1_Frame_Line, b2_Frame_Line⟩⟩
theorem tNode_mkR {w : World} {B : Nat} {x : DNode}  (h0 : I64 x.Parent) (h1 : x.Frame.Name.size ≤ 9223372036854775807) (h2 : I64 x.Frame.Line) : tNode.R w B [.int .i64 x.Parent, .string x.Frame.Name, .int .i64 x.Frame.Line] x := by
  exact ⟨[.int .i64 x.Parent], [.string x.Frame.Name, .int .i64 x.Frame.Line], rfl, ⟨rfl, h0.1, h0.2⟩, ⟨[.string x.Frame.Name], [.int .i64 x.Frame.Line], rfl, ⟨rfl, h1⟩, ⟨rfl, h2.1, h2.2⟩⟩⟩
theorem tNode_O {w : World} {cs : List Value} {x : DNode} {S : List Nat} (h : tNode.O w cs x S) : cs = [.int .i64 x.Parent, .string x.Frame.Name, .int .i64 x.Frame.Line] ∧ S = [] ∧ I64 x.Parent ∧ x.Frame.Name.size ≤ 9223372036854775807 ∧ I64 x.Frame.Line := by
  obtain ⟨_, _, _, _, rfl, rfl, ⟨rfl, b1_Parent, b2_Parent, rfl⟩, ⟨_, _, _, _, rfl, rfl, ⟨rfl, b1_Frame_Name, rfl⟩, ⟨rfl, b1_Frame_Line, b2_Frame_Line, rfl⟩⟩⟩ := h
  exact ⟨rfl, rfl, ⟨b1_Parent, b2_Parent⟩, b1_Frame_Name, ⟨b1_Frame_Line, b2_Frame_Line⟩⟩
theorem tNode_mkO {w : World} {x : DNode}  (h0 : I64 x.Parent) (h1 : x.Frame.Name.size ≤ 9223372036854775807) (h2 : I64 x.Frame.Line) : tNode.O w [.int .i64 x.Parent, .string x.Frame.Name, .int .i64 x.Frame.Line] x ([]) := by
  exact ⟨[.int .i64 x.Parent], [.string x.Frame.Name, .int .i64 x.Frame.Line], [], ([] ++ []), rfl, rfl, ⟨rfl, h0.1, h0.2, rfl⟩, ⟨[.string x.Frame.Name], [.int .i64 x.Frame.Line], [], [], rfl, rfl, ⟨rfl, h1, rfl⟩, ⟨rfl, h2.1, h2.2, rfl⟩⟩⟩
structure DStacks where
  Nodes : List DNode
  deriving DecidableEq
def tStacks : Ty DStacks := (tNode.sl 48).via fun x => x.Nodes
theorem tStacks_R {w : World} {B : Nat} {cs : List Value} {x : DStacks} (h : tStacks.R w B cs x) : ∃ A0 c0, cs = [.slice A0 x.Nodes.length c0] ∧ (tNode.sl 48).R w B [.slice A0 x.Nodes.length c0] x.Nodes := by
  have s_Nodes : (tNode.sl 48).R w B cs x.Nodes := h
  obtain ⟨A0, c0, rfl, _⟩ := id s_Nodes
  exact ⟨A0, c0, rfl, s_Nodes⟩
theorem tStacks_mkR {w : World} {B : Nat} {x : DStacks} (A0 : Option Addr) (c0 : Nat)  (h0 : (tNode.sl 48).R w B [.slice A0 x.Nodes.length c0] x.Nodes) : tStacks.R w B [.slice A0 x.Nodes.length c0] x := by
  exact h0
theorem tStacks_O {w : World} {cs : List Value} {x : DStacks} {S : List Nat} (h : tStacks.O w cs x S) : ∃ A0 c0 S0, cs = [.slice A0 x.Nodes.length c0] ∧ S = S0 ∧ (tNode.sl 48).O w [.slice A0 x.Nodes.length c0] x.Nodes S0 := by
  have s_Nodes : (tNode.sl 48).O w cs x.Nodes S := h
  obtain ⟨A0, c0, _, _, rfl, _⟩ := id s_Nodes
  exact ⟨A0, c0, _, rfl, by simp, s_Nodes⟩
theorem tStacks_mkO {w : World} {x : DStacks} (A0 : Option Addr) (c0 : Nat) (S0 : List Nat)  (h0 : (tNode.sl 48).O w [.slice A0 x.Nodes.length c0] x.Nodes S0) : tStacks.O w [.slice A0 x.Nodes.length c0] x (S0) := by
  have h : tStacks.O w [.slice A0 x.Nodes.length c0] x S0 := h0
  simpa using h
structure DProfile where
  Stacks : DStacks
  Counts : List Int
  deriving DecidableEq
def tProfile : Ty DProfile := (tStacks.prod (intT.sl 3)).via fun x => (x.Stacks, x.Counts)
theorem tProfile_R {w : World} {B : Nat} {cs : List Value} {x : DProfile} (h : tProfile.R w B cs x) : ∃ A0 c0 A1 c1, cs = [.slice A0 x.Stacks.Nodes.length c0, .slice A1 x.Counts.length c1] ∧ (tNode.sl 48).R w B [.slice A0 x.Stacks.Nodes.length c0] x.Stacks.Nodes ∧ (intT.sl 3).R w B [.slice A1 x.Counts.length c1] x.Counts := by
  obtain ⟨_, _, rfl, s_Stacks_Nodes, s_Counts⟩ := h
  obtain ⟨A0, c0, rfl, _⟩ := id s_Stacks_Nodes
  obtain ⟨A1, c1, rfl, _⟩ := id s_Counts
  exact ⟨A0, c0, A1, c1, rfl, s_Stacks_Nodes, s_Counts⟩
theorem tProfile_mkR {w : World} {B : Nat} {x : DProfile} (A0 : Option Addr) (c0 : Nat) (A1 : Option Addr) (c1 : Nat)  (h0 : (tNode.sl 48).R w B [.slice A0 x.Stacks.Nodes.length c0] x.Stacks.Nodes) (h1 : (intT.sl 3).R w B [.slice A1 x.Counts.length c1] x.Counts) : tProfile.R w B [.slice A0 x.Stacks.Nodes.length c0, .slice A1 x.Counts.length c1] x := by
  exact ⟨[.slice A0 x.Stacks.Nodes.length c0], [.slice A1 x.Counts.length c1], rfl, h0, h1⟩
theorem tProfile_O {w : World} {cs : List Value} {x : DProfile} {S : List Nat} (h : tProfile.O w cs x S) : ∃ A0 c0 S0 A1 c1 S1, cs = [.slice A0 x.Stacks.Nodes.length c0, .slice A1 x.Counts.length c1] ∧ S = S0 ++ S1 ∧ (tNode.sl 48).O w [.slice A0 x.Stacks.Nodes.length c0] x.Stacks.Nodes S0 ∧ (intT.sl 3).O w [.slice A1 x.Counts.length c1] x.Counts S1 := by
  obtain ⟨_, _, _, _, rfl, rfl, s_Stacks_Nodes, s_Counts⟩ := h
  obtain ⟨A0, c0, _, _, rfl, _⟩ := id s_Stacks_Nodes
  obtain ⟨A1, c1, _, _, rfl, _⟩ := id s_Counts
  exact ⟨A0, c0, _, A1, c1, _, rfl, by simp, s_Stacks_Nodes, s_Counts⟩
theorem tProfile_mkO {w : World} {x : DProfile} (A0 : Option Addr) (c0 : Nat) (S0 : List Nat) (A1 : Option Addr) (c1 : Nat) (S1 : List Nat)  (h0 : (tNode.sl 48).O w [.slice A0 x.Stacks.Nodes.length c0] x.Stacks.Nodes S0) (h1 : (intT.sl 3).O w [.slice A1 x.Counts.length c1] x.Counts S1) : tProfile.O w [.slice A0 x.Stacks.Nodes.length c0, .slice A1 x.Counts.length c1] x (S0 ++ S1) := by
  have h : tProfile.O w [.slice A0 x.Stacks.Nodes.length c0, .slice A1 x.Counts.length c1] x (S0 ++ S1) := ⟨[.slice A0 x.Stacks.Nodes.length c0], [.slice A1 x.Counts.length c1], S0, S1, rfl, rfl, h0, h1⟩
  simpa using h
end Go.Proofs.YtcomafmiclkmhaaGreatDoor
