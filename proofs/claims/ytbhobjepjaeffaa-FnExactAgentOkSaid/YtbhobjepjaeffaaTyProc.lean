/-
  TYPES, written by a program (gentypefile.py): Symbol, Image, Space, Machine, Process.
-/
import Derived.Test.YtbhobjepjaeffaaProg
import Derived.Test.YtbhobjepjaeffaaOpen
import Derived.KernelRfl
set_option linter.unusedVariables false
set_option linter.unusedSimpArgs false
namespace Go.Proofs.Ytbhobjepjaeffaa
open Go.RowKit
structure DSymbol where
  Name : ByteArray
  Start : Int
  Size : Int
  deriving DecidableEq
def tSymbol : Ty DSymbol := (strT.prod (intT.prod intT)).via fun x => (x.Name, x.Start, x.Size)
theorem tSymbol_opens : Opens Try.prog 178 tSymbol := opens_via _ (fun x => ⟨x.1, x.2.1, x.2.2⟩) (fun _ => rfl) (opens_struct Try.underlying178 (by kernel_rfl) (opF_cons rfl (by kernel_rfl) (opens_str Try.underlying9) (opF_cons rfl (by kernel_rfl) (opens_int Try.underlying3) (opF_one rfl (by kernel_rfl) (opens_int Try.underlying3)))))
theorem tSymbol_R {w : World} {B : Nat} {cs : List Value} {x : DSymbol} (h : tSymbol.R w B cs x) : cs = [.string x.Name, .int .i64 x.Start, .int .i64 x.Size] ∧ x.Name.size ≤ 9223372036854775807 ∧ I64 x.Start ∧ I64 x.Size := by
  obtain ⟨_, _, rfl, ⟨rfl, b1_Name⟩, ⟨_, _, rfl, ⟨rfl, b1_Start, b2_Start⟩, ⟨rfl, b1_Size, b2_Size⟩⟩⟩ := h
  exact ⟨rfl, b1_Name, ⟨b1_Start, b2_Start⟩, ⟨b1_Size, b2_Size⟩⟩
theorem tSymbol_mkR {w : World} {B : Nat} {x : DSymbol}  (h0 : x.Name.size ≤ 9223372036854775807) (h1 : I64 x.Start) (h2 : I64 x.Size) : tSymbol.R w B [.string x.Name, .int .i64 x.Start, .int .i64 x.Size] x := by
  exact ⟨[.string x.Name], [.int .i64 x.Start, .int .i64 x.Size], rfl, ⟨rfl, h0⟩, ⟨[.int .i64 x.Start], [.int .i64 x.Size], rfl, ⟨rfl, h1.1, h1.2⟩, ⟨rfl, h2.1, h2.2⟩⟩⟩
theorem tSymbol_O {w : World} {cs : List Value} {x : DSymbol} {S : List Nat} (h : tSymbol.O w cs x S) : cs = [.string x.Name, .int .i64 x.Start, .int .i64 x.Size] ∧ S = [] ∧ x.Name.size ≤ 9223372036854775807 ∧ I64 x.Start ∧ I64 x.Size := by
  obtain ⟨_, _, _, _, rfl, rfl, ⟨rfl, b1_Name, rfl⟩, ⟨_, _, _, _, rfl, rfl, ⟨rfl, b1_Start, b2_Start, rfl⟩, ⟨rfl, b1_Size, b2_Size, rfl⟩⟩⟩ := h
  exact ⟨rfl, rfl, b1_Name, ⟨b1_Start, b2_Start⟩, ⟨b1_Size, b2_Size⟩⟩
theorem tSymbol_mkO {w : World} {x : DSymbol}  (h0 : x.Name.size ≤ 9223372036854775807) (h1 : I64 x.Start) (h2 : I64 x.Size) : tSymbol.O w [.string x.Name, .int .i64 x.Start, .int .i64 x.Size] x ([]) := by
  exact ⟨[.string x.Name], [.int .i64 x.Start, .int .i64 x.Size], [], ([] ++ []), rfl, rfl, ⟨rfl, h0, rfl⟩, ⟨[.int .i64 x.Start], [.int .i64 x.Size], [], [], rfl, rfl, ⟨rfl, h1.1, h1.2, rfl⟩, ⟨rfl, h2.1, h2.2, rfl⟩⟩⟩
structure DImage where
  Code : ByteArray
  Symbols : List DSymbol
  deriving DecidableEq
def tImage : Ty DImage := (strT.prod (tSymbol.sl 118)).via fun x => (x.Code, x.Symbols)
theorem tImage_opens : Opens Try.prog 125 tImage := opens_via _ (fun x => ⟨x.1, x.2⟩) (fun _ => rfl) (opens_struct Try.underlying125 (by kernel_rfl) (opF_cons rfl (by kernel_rfl) (opens_str Try.underlying9) (opF_one rfl (by kernel_rfl) (opens_sl Try.underlying123 (by kernel_rfl) (by decide) tSymbol_opens))))
theorem tImage_R {w : World} {B : Nat} {cs : List Value} {x : DImage} (h : tImage.R w B cs x) : ∃ A0 c0, cs = [.string x.Code, .slice A0 x.Symbols.length c0] ∧ x.Code.size ≤ 9223372036854775807 ∧ (tSymbol.sl 118).R w B [.slice A0 x.Symbols.length c0] x.Symbols := by
  obtain ⟨_, _, rfl, ⟨rfl, b1_Code⟩, s_Symbols⟩ := h
  obtain ⟨A0, c0, rfl, _⟩ := id s_Symbols
  exact ⟨A0, c0, rfl, b1_Code, s_Symbols⟩
theorem tImage_mkR {w : World} {B : Nat} {x : DImage} (A0 : Option Addr) (c0 : Nat)  (h0 : x.Code.size ≤ 9223372036854775807) (h1 : (tSymbol.sl 118).R w B [.slice A0 x.Symbols.length c0] x.Symbols) : tImage.R w B [.string x.Code, .slice A0 x.Symbols.length c0] x := by
  exact ⟨[.string x.Code], [.slice A0 x.Symbols.length c0], rfl, ⟨rfl, h0⟩, h1⟩
theorem tImage_O {w : World} {cs : List Value} {x : DImage} {S : List Nat} (h : tImage.O w cs x S) : ∃ A0 c0 S0, cs = [.string x.Code, .slice A0 x.Symbols.length c0] ∧ S = S0 ∧ x.Code.size ≤ 9223372036854775807 ∧ (tSymbol.sl 118).O w [.slice A0 x.Symbols.length c0] x.Symbols S0 := by
  obtain ⟨_, _, _, _, rfl, rfl, ⟨rfl, b1_Code, rfl⟩, s_Symbols⟩ := h
  obtain ⟨A0, c0, _, _, rfl, _⟩ := id s_Symbols
  exact ⟨A0, c0, _, rfl, by simp, b1_Code, s_Symbols⟩
theorem tImage_mkO {w : World} {x : DImage} (A0 : Option Addr) (c0 : Nat) (S0 : List Nat)  (h0 : x.Code.size ≤ 9223372036854775807) (h1 : (tSymbol.sl 118).O w [.slice A0 x.Symbols.length c0] x.Symbols S0) : tImage.O w [.string x.Code, .slice A0 x.Symbols.length c0] x (S0) := by
  have h : tImage.O w [.string x.Code, .slice A0 x.Symbols.length c0] x ([] ++ S0) := ⟨[.string x.Code], [.slice A0 x.Symbols.length c0], [], S0, rfl, rfl, ⟨rfl, h0, rfl⟩, h1⟩
  simpa using h
structure DSpace where
  Images : List DImage
  Bases : List Int
  Entries : List Int
  deriving DecidableEq
def tSpace : Ty DSpace := ((tImage.sl 96).prod ((intT.sl 3).prod (intT.sl 3))).via fun x => (x.Images, x.Bases, x.Entries)
theorem tSpace_opens : Opens Try.prog 25 tSpace := opens_via _ (fun x => ⟨x.1, x.2.1, x.2.2⟩) (fun _ => rfl) (opens_struct Try.underlying25 (by kernel_rfl) (opF_cons rfl (by kernel_rfl) (opens_sl Try.underlying22 (by kernel_rfl) (by decide) tImage_opens) (opF_cons rfl (by kernel_rfl) (opens_sl Try.underlying23 (by kernel_rfl) (by decide) (opens_int Try.underlying3)) (opF_one rfl (by kernel_rfl) (opens_sl Try.underlying23 (by kernel_rfl) (by decide) (opens_int Try.underlying3))))))
theorem tSpace_R {w : World} {B : Nat} {cs : List Value} {x : DSpace} (h : tSpace.R w B cs x) : ∃ A0 c0 A1 c1 A2 c2, cs = [.slice A0 x.Images.length c0, .slice A1 x.Bases.length c1, .slice A2 x.Entries.length c2] ∧ (tImage.sl 96).R w B [.slice A0 x.Images.length c0] x.Images ∧ (intT.sl 3).R w B [.slice A1 x.Bases.length c1] x.Bases ∧ (intT.sl 3).R w B [.slice A2 x.Entries.length c2] x.Entries := by
  obtain ⟨_, _, rfl, s_Images, ⟨_, _, rfl, s_Bases, s_Entries⟩⟩ := h
  obtain ⟨A0, c0, rfl, _⟩ := id s_Images
  obtain ⟨A1, c1, rfl, _⟩ := id s_Bases
  obtain ⟨A2, c2, rfl, _⟩ := id s_Entries
  exact ⟨A0, c0, A1, c1, A2, c2, rfl, s_Images, s_Bases, s_Entries⟩
theorem tSpace_mkR {w : World} {B : Nat} {x : DSpace} (A0 : Option Addr) (c0 : Nat) (A1 : Option Addr) (c1 : Nat) (A2 : Option Addr) (c2 : Nat)  (h0 : (tImage.sl 96).R w B [.slice A0 x.Images.length c0] x.Images) (h1 : (intT.sl 3).R w B [.slice A1 x.Bases.length c1] x.Bases) (h2 : (intT.sl 3).R w B [.slice A2 x.Entries.length c2] x.Entries) : tSpace.R w B [.slice A0 x.Images.length c0, .slice A1 x.Bases.length c1, .slice A2 x.Entries.length c2] x := by
  exact ⟨[.slice A0 x.Images.length c0], [.slice A1 x.Bases.length c1, .slice A2 x.Entries.length c2], rfl, h0, ⟨[.slice A1 x.Bases.length c1], [.slice A2 x.Entries.length c2], rfl, h1, h2⟩⟩
theorem tSpace_O {w : World} {cs : List Value} {x : DSpace} {S : List Nat} (h : tSpace.O w cs x S) : ∃ A0 c0 S0 A1 c1 S1 A2 c2 S2, cs = [.slice A0 x.Images.length c0, .slice A1 x.Bases.length c1, .slice A2 x.Entries.length c2] ∧ S = S0 ++ S1 ++ S2 ∧ (tImage.sl 96).O w [.slice A0 x.Images.length c0] x.Images S0 ∧ (intT.sl 3).O w [.slice A1 x.Bases.length c1] x.Bases S1 ∧ (intT.sl 3).O w [.slice A2 x.Entries.length c2] x.Entries S2 := by
  obtain ⟨_, _, _, _, rfl, rfl, s_Images, ⟨_, _, _, _, rfl, rfl, s_Bases, s_Entries⟩⟩ := h
  obtain ⟨A0, c0, _, _, rfl, _⟩ := id s_Images
  obtain ⟨A1, c1, _, _, rfl, _⟩ := id s_Bases
  obtain ⟨A2, c2, _, _, rfl, _⟩ := id s_Entries
  exact ⟨A0, c0, _, A1, c1, _, A2, c2, _, rfl, by simp, s_Images, s_Bases, s_Entries⟩
theorem tSpace_mkO {w : World} {x : DSpace} (A0 : Option Addr) (c0 : Nat) (S0 : List Nat) (A1 : Option Addr) (c1 : Nat) (S1 : List Nat) (A2 : Option Addr) (c2 : Nat) (S2 : List Nat)  (h0 : (tImage.sl 96).O w [.slice A0 x.Images.length c0] x.Images S0) (h1 : (intT.sl 3).O w [.slice A1 x.Bases.length c1] x.Bases S1) (h2 : (intT.sl 3).O w [.slice A2 x.Entries.length c2] x.Entries S2) : tSpace.O w [.slice A0 x.Images.length c0, .slice A1 x.Bases.length c1, .slice A2 x.Entries.length c2] x (S0 ++ S1 ++ S2) := by
  have h : tSpace.O w [.slice A0 x.Images.length c0, .slice A1 x.Bases.length c1, .slice A2 x.Entries.length c2] x (S0 ++ (S1 ++ S2)) := ⟨[.slice A0 x.Images.length c0], [.slice A1 x.Bases.length c1, .slice A2 x.Entries.length c2], S0, (S1 ++ S2), rfl, rfl, h0, ⟨[.slice A1 x.Bases.length c1], [.slice A2 x.Entries.length c2], S1, S2, rfl, rfl, h1, h2⟩⟩
  simpa using h
structure DMachine where
  Pc : Int
  Sp : Int
  Fp : Int
  Stack : List Int
  Out : List Int
  State : Int
  Value : Int
  deriving DecidableEq
def tMachine : Ty DMachine := (intT.prod (intT.prod (intT.prod ((intT.sl 3).prod ((intT.sl 3).prod (intT.prod intT)))))).via fun x => (x.Pc, x.Sp, x.Fp, x.Stack, x.Out, x.State, x.Value)
theorem tMachine_opens : Opens Try.prog 112 tMachine := opens_via _ (fun x => ⟨x.1, x.2.1, x.2.2.1, x.2.2.2.1, x.2.2.2.2.1, x.2.2.2.2.2.1, x.2.2.2.2.2.2⟩) (fun _ => rfl) (opens_struct Try.underlying112 (by kernel_rfl) (opF_cons rfl (by kernel_rfl) (opens_int Try.underlying3) (opF_cons rfl (by kernel_rfl) (opens_int Try.underlying3) (opF_cons rfl (by kernel_rfl) (opens_int Try.underlying3) (opF_cons rfl (by kernel_rfl) (opens_sl Try.underlying23 (by kernel_rfl) (by decide) (opens_int Try.underlying3)) (opF_cons rfl (by kernel_rfl) (opens_sl Try.underlying23 (by kernel_rfl) (by decide) (opens_int Try.underlying3)) (opF_cons rfl (by kernel_rfl) (opens_int Try.underlying3) (opF_one rfl (by kernel_rfl) (opens_int Try.underlying3)))))))))
theorem tMachine_R {w : World} {B : Nat} {cs : List Value} {x : DMachine} (h : tMachine.R w B cs x) : ∃ A0 c0 A1 c1, cs = [.int .i64 x.Pc, .int .i64 x.Sp, .int .i64 x.Fp, .slice A0 x.Stack.length c0, .slice A1 x.Out.length c1, .int .i64 x.State, .int .i64 x.Value] ∧ I64 x.Pc ∧ I64 x.Sp ∧ I64 x.Fp ∧ (intT.sl 3).R w B [.slice A0 x.Stack.length c0] x.Stack ∧ (intT.sl 3).R w B [.slice A1 x.Out.length c1] x.Out ∧ I64 x.State ∧ I64 x.Value := by
  obtain ⟨_, _, rfl, ⟨rfl, b1_Pc, b2_Pc⟩, ⟨_, _, rfl, ⟨rfl, b1_Sp, b2_Sp⟩, ⟨_, _, rfl, ⟨rfl, b1_Fp, b2_Fp⟩, ⟨_, _, rfl, s_Stack, ⟨_, _, rfl, s_Out, ⟨_, _, rfl, ⟨rfl, b1_State, b2_State⟩, ⟨rfl, b1_Value, b2_Value⟩⟩⟩⟩⟩⟩⟩ := h
  obtain ⟨A0, c0, rfl, _⟩ := id s_Stack
  obtain ⟨A1, c1, rfl, _⟩ := id s_Out
  exact ⟨A0, c0, A1, c1, rfl, ⟨b1_Pc, b2_Pc⟩, ⟨b1_Sp, b2_Sp⟩, ⟨b1_Fp, b2_Fp⟩, s_Stack, s_Out, ⟨b1_State, b2_State⟩, ⟨b1_Value, b2_Value⟩⟩
theorem tMachine_mkR {w : World} {B : Nat} {x : DMachine} (A0 : Option Addr) (c0 : Nat) (A1 : Option Addr) (c1 : Nat)  (h0 : I64 x.Pc) (h1 : I64 x.Sp) (h2 : I64 x.Fp) (h3 : (intT.sl 3).R w B [.slice A0 x.Stack.length c0] x.Stack) (h4 : (intT.sl 3).R w B [.slice A1 x.Out.length c1] x.Out) (h5 : I64 x.State) (h6 : I64 x.Value) : tMachine.R w B [.int .i64 x.Pc, .int .i64 x.Sp, .int .i64 x.Fp, .slice A0 x.Stack.length c0, .slice A1 x.Out.length c1, .int .i64 x.State, .int .i64 x.Value] x := by
  exact ⟨[.int .i64 x.Pc], [.int .i64 x.Sp, .int .i64 x.Fp, .slice A0 x.Stack.length c0, .slice A1 x.Out.length c1, .int .i64 x.State, .int .i64 x.Value], rfl, ⟨rfl, h0.1, h0.2⟩, ⟨[.int .i64 x.Sp], [.int .i64 x.Fp, .slice A0 x.Stack.length c0, .slice A1 x.Out.length c1, .int .i64 x.State, .int .i64 x.Value], rfl, ⟨rfl, h1.1, h1.2⟩, ⟨[.int .i64 x.Fp], [.slice A0 x.Stack.length c0, .slice A1 x.Out.length c1, .int .i64 x.State, .int .i64 x.Value], rfl, ⟨rfl, h2.1, h2.2⟩, ⟨[.slice A0 x.Stack.length c0], [.slice A1 x.Out.length c1, .int .i64 x.State, .int .i64 x.Value], rfl, h3, ⟨[.slice A1 x.Out.length c1], [.int .i64 x.State, .int .i64 x.Value], rfl, h4, ⟨[.int .i64 x.State], [.int .i64 x.Value], rfl, ⟨rfl, h5.1, h5.2⟩, ⟨rfl, h6.1, h6.2⟩⟩⟩⟩⟩⟩⟩
theorem tMachine_O {w : World} {cs : List Value} {x : DMachine} {S : List Nat} (h : tMachine.O w cs x S) : ∃ A0 c0 S0 A1 c1 S1, cs = [.int .i64 x.Pc, .int .i64 x.Sp, .int .i64 x.Fp, .slice A0 x.Stack.length c0, .slice A1 x.Out.length c1, .int .i64 x.State, .int .i64 x.Value] ∧ S = S0 ++ S1 ∧ I64 x.Pc ∧ I64 x.Sp ∧ I64 x.Fp ∧ (intT.sl 3).O w [.slice A0 x.Stack.length c0] x.Stack S0 ∧ (intT.sl 3).O w [.slice A1 x.Out.length c1] x.Out S1 ∧ I64 x.State ∧ I64 x.Value := by
  obtain ⟨_, _, _, _, rfl, rfl, ⟨rfl, b1_Pc, b2_Pc, rfl⟩, ⟨_, _, _, _, rfl, rfl, ⟨rfl, b1_Sp, b2_Sp, rfl⟩, ⟨_, _, _, _, rfl, rfl, ⟨rfl, b1_Fp, b2_Fp, rfl⟩, ⟨_, _, _, _, rfl, rfl, s_Stack, ⟨_, _, _, _, rfl, rfl, s_Out, ⟨_, _, _, _, rfl, rfl, ⟨rfl, b1_State, b2_State, rfl⟩, ⟨rfl, b1_Value, b2_Value, rfl⟩⟩⟩⟩⟩⟩⟩ := h
  obtain ⟨A0, c0, _, _, rfl, _⟩ := id s_Stack
  obtain ⟨A1, c1, _, _, rfl, _⟩ := id s_Out
  exact ⟨A0, c0, _, A1, c1, _, rfl, by simp, ⟨b1_Pc, b2_Pc⟩, ⟨b1_Sp, b2_Sp⟩, ⟨b1_Fp, b2_Fp⟩, s_Stack, s_Out, ⟨b1_State, b2_State⟩, ⟨b1_Value, b2_Value⟩⟩
theorem tMachine_mkO {w : World} {x : DMachine} (A0 : Option Addr) (c0 : Nat) (S0 : List Nat) (A1 : Option Addr) (c1 : Nat) (S1 : List Nat)  (h0 : I64 x.Pc) (h1 : I64 x.Sp) (h2 : I64 x.Fp) (h3 : (intT.sl 3).O w [.slice A0 x.Stack.length c0] x.Stack S0) (h4 : (intT.sl 3).O w [.slice A1 x.Out.length c1] x.Out S1) (h5 : I64 x.State) (h6 : I64 x.Value) : tMachine.O w [.int .i64 x.Pc, .int .i64 x.Sp, .int .i64 x.Fp, .slice A0 x.Stack.length c0, .slice A1 x.Out.length c1, .int .i64 x.State, .int .i64 x.Value] x (S0 ++ S1) := by
  have h : tMachine.O w [.int .i64 x.Pc, .int .i64 x.Sp, .int .i64 x.Fp, .slice A0 x.Stack.length c0, .slice A1 x.Out.length c1, .int .i64 x.State, .int .i64 x.Value] x ([] ++ ([] ++ ([] ++ (S0 ++ (S1 ++ ([] ++ [])))))) := ⟨[.int .i64 x.Pc], [.int .i64 x.Sp, .int .i64 x.Fp, .slice A0 x.Stack.length c0, .slice A1 x.Out.length c1, .int .i64 x.State, .int .i64 x.Value], [], ([] ++ ([] ++ (S0 ++ (S1 ++ ([] ++ []))))), rfl, rfl, ⟨rfl, h0.1, h0.2, rfl⟩, ⟨[.int .i64 x.Sp], [.int .i64 x.Fp, .slice A0 x.Stack.length c0, .slice A1 x.Out.length c1, .int .i64 x.State, .int .i64 x.Value], [], ([] ++ (S0 ++ (S1 ++ ([] ++ [])))), rfl, rfl, ⟨rfl, h1.1, h1.2, rfl⟩, ⟨[.int .i64 x.Fp], [.slice A0 x.Stack.length c0, .slice A1 x.Out.length c1, .int .i64 x.State, .int .i64 x.Value], [], (S0 ++ (S1 ++ ([] ++ []))), rfl, rfl, ⟨rfl, h2.1, h2.2, rfl⟩, ⟨[.slice A0 x.Stack.length c0], [.slice A1 x.Out.length c1, .int .i64 x.State, .int .i64 x.Value], S0, (S1 ++ ([] ++ [])), rfl, rfl, h3, ⟨[.slice A1 x.Out.length c1], [.int .i64 x.State, .int .i64 x.Value], S1, ([] ++ []), rfl, rfl, h4, ⟨[.int .i64 x.State], [.int .i64 x.Value], [], [], rfl, rfl, ⟨rfl, h5.1, h5.2, rfl⟩, ⟨rfl, h6.1, h6.2, rfl⟩⟩⟩⟩⟩⟩⟩
  simpa using h
structure DProcess where
  Space : DSpace
  Threads : List DMachine
  Turn : Int
  Left : Int
  Slice : Int
  deriving DecidableEq
def tProcess : Ty DProcess := (tSpace.prod ((tMachine.sl 80).prod (intT.prod (intT.prod intT)))).via fun x => (x.Space, x.Threads, x.Turn, x.Left, x.Slice)
theorem tProcess_opens : Opens Try.prog 28 tProcess := opens_via _ (fun x => ⟨x.1, x.2.1, x.2.2.1, x.2.2.2.1, x.2.2.2.2⟩) (fun _ => rfl) (opens_struct Try.underlying28 (by kernel_rfl) (opF_cons rfl (by kernel_rfl) tSpace_opens (opF_cons rfl (by kernel_rfl) (opens_sl Try.underlying26 (by kernel_rfl) (by decide) tMachine_opens) (opF_cons rfl (by kernel_rfl) (opens_int Try.underlying3) (opF_cons rfl (by kernel_rfl) (opens_int Try.underlying3) (opF_one rfl (by kernel_rfl) (opens_int Try.underlying3)))))))
theorem tProcess_R {w : World} {B : Nat} {cs : List Value} {x : DProcess} (h : tProcess.R w B cs x) : ∃ A0 c0 A1 c1 A2 c2 A3 c3, cs = [.slice A0 x.Space.Images.length c0, .slice A1 x.Space.Bases.length c1, .slice A2 x.Space.Entries.length c2, .slice A3 x.Threads.length c3, .int .i64 x.Turn, .int .i64 x.Left, .int .i64 x.Slice] ∧ (tImage.sl 96).R w B [.slice A0 x.Space.Images.length c0] x.Space.Images ∧ (intT.sl 3).R w B [.slice A1 x.Space.Bases.length c1] x.Space.Bases ∧ (intT.sl 3).R w B [.slice A2 x.Space.Entries.length c2] x.Space.Entries ∧ (tMachine.sl 80).R w B [.slice A3 x.Threads.length c3] x.Threads ∧ I64 x.Turn ∧ I64 x.Left ∧ I64 x.Slice := by
  obtain ⟨_, _, rfl, ⟨_, _, rfl, s_Space_Images, ⟨_, _, rfl, s_Space_Bases, s_Space_Entries⟩⟩, ⟨_, _, rfl, s_Threads, ⟨_, _, rfl, ⟨rfl, b1_Turn, b2_Turn⟩, ⟨_, _, rfl, ⟨rfl, b1_Left, b2_Left⟩, ⟨rfl, b1_Slice, b2_Slice⟩⟩⟩⟩⟩ := h
  obtain ⟨A0, c0, rfl, _⟩ := id s_Space_Images
  obtain ⟨A1, c1, rfl, _⟩ := id s_Space_Bases
  obtain ⟨A2, c2, rfl, _⟩ := id s_Space_Entries
  obtain ⟨A3, c3, rfl, _⟩ := id s_Threads
  exact ⟨A0, c0, A1, c1, A2, c2, A3, c3, rfl, s_Space_Images, s_Space_Bases, s_Space_Entries, s_Threads, ⟨b1_Turn, b2_Turn⟩, ⟨b1_Left, b2_Left⟩, ⟨b1_Slice, b2_Slice⟩⟩
theorem tProcess_mkR {w : World} {B : Nat} {x : DProcess} (A0 : Option Addr) (c0 : Nat) (A1 : Option Addr) (c1 : Nat) (A2 : Option Addr) (c2 : Nat) (A3 : Option Addr) (c3 : Nat)  (h0 : (tImage.sl 96).R w B [.slice A0 x.Space.Images.length c0] x.Space.Images) (h1 : (intT.sl 3).R w B [.slice A1 x.Space.Bases.length c1] x.Space.Bases) (h2 : (intT.sl 3).R w B [.slice A2 x.Space.Entries.length c2] x.Space.Entries) (h3 : (tMachine.sl 80).R w B [.slice A3 x.Threads.length c3] x.Threads) (h4 : I64 x.Turn) (h5 : I64 x.Left) (h6 : I64 x.Slice) : tProcess.R w B [.slice A0 x.Space.Images.length c0, .slice A1 x.Space.Bases.length c1, .slice A2 x.Space.Entries.length c2, .slice A3 x.Threads.length c3, .int .i64 x.Turn, .int .i64 x.Left, .int .i64 x.Slice] x := by
  exact ⟨[.slice A0 x.Space.Images.length c0, .slice A1 x.Space.Bases.length c1, .slice A2 x.Space.Entries.length c2], [.slice A3 x.Threads.length c3, .int .i64 x.Turn, .int .i64 x.Left, .int .i64 x.Slice], rfl, ⟨[.slice A0 x.Space.Images.length c0], [.slice A1 x.Space.Bases.length c1, .slice A2 x.Space.Entries.length c2], rfl, h0, ⟨[.slice A1 x.Space.Bases.length c1], [.slice A2 x.Space.Entries.length c2], rfl, h1, h2⟩⟩, ⟨[.slice A3 x.Threads.length c3], [.int .i64 x.Turn, .int .i64 x.Left, .int .i64 x.Slice], rfl, h3, ⟨[.int .i64 x.Turn], [.int .i64 x.Left, .int .i64 x.Slice], rfl, ⟨rfl, h4.1, h4.2⟩, ⟨[.int .i64 x.Left], [.int .i64 x.Slice], rfl, ⟨rfl, h5.1, h5.2⟩, ⟨rfl, h6.1, h6.2⟩⟩⟩⟩⟩
theorem tProcess_O {w : World} {cs : List Value} {x : DProcess} {S : List Nat} (h : tProcess.O w cs x S) : ∃ A0 c0 S0 A1 c1 S1 A2 c2 S2 A3 c3 S3, cs = [.slice A0 x.Space.Images.length c0, .slice A1 x.Space.Bases.length c1, .slice A2 x.Space.Entries.length c2, .slice A3 x.Threads.length c3, .int .i64 x.Turn, .int .i64 x.Left, .int .i64 x.Slice] ∧ S = S0 ++ S1 ++ S2 ++ S3 ∧ (tImage.sl 96).O w [.slice A0 x.Space.Images.length c0] x.Space.Images S0 ∧ (intT.sl 3).O w [.slice A1 x.Space.Bases.length c1] x.Space.Bases S1 ∧ (intT.sl 3).O w [.slice A2 x.Space.Entries.length c2] x.Space.Entries S2 ∧ (tMachine.sl 80).O w [.slice A3 x.Threads.length c3] x.Threads S3 ∧ I64 x.Turn ∧ I64 x.Left ∧ I64 x.Slice := by
  obtain ⟨_, _, _, _, rfl, rfl, ⟨_, _, _, _, rfl, rfl, s_Space_Images, ⟨_, _, _, _, rfl, rfl, s_Space_Bases, s_Space_Entries⟩⟩, ⟨_, _, _, _, rfl, rfl, s_Threads, ⟨_, _, _, _, rfl, rfl, ⟨rfl, b1_Turn, b2_Turn, rfl⟩, ⟨_, _, _, _, rfl, rfl, ⟨rfl, b1_Left, b2_Left, rfl⟩, ⟨rfl, b1_Slice, b2_Slice, rfl⟩⟩⟩⟩⟩ := h
  obtain ⟨A0, c0, _, _, rfl, _⟩ := id s_Space_Images
  obtain ⟨A1, c1, _, _, rfl, _⟩ := id s_Space_Bases
  obtain ⟨A2, c2, _, _, rfl, _⟩ := id s_Space_Entries
  obtain ⟨A3, c3, _, _, rfl, _⟩ := id s_Threads
  exact ⟨A0, c0, _, A1, c1, _, A2, c2, _, A3, c3, _, rfl, by simp, s_Space_Images, s_Space_Bases, s_Space_Entries, s_Threads, ⟨b1_Turn, b2_Turn⟩, ⟨b1_Left, b2_Left⟩, ⟨b1_Slice, b2_Slice⟩⟩
theorem tProcess_mkO {w : World} {x : DProcess} (A0 : Option Addr) (c0 : Nat) (S0 : List Nat) (A1 : Option Addr) (c1 : Nat) (S1 : List Nat) (A2 : Option Addr) (c2 : Nat) (S2 : List Nat) (A3 : Option Addr) (c3 : Nat) (S3 : List Nat)  (h0 : (tImage.sl 96).O w [.slice A0 x.Space.Images.length c0] x.Space.Images S0) (h1 : (intT.sl 3).O w [.slice A1 x.Space.Bases.length c1] x.Space.Bases S1) (h2 : (intT.sl 3).O w [.slice A2 x.Space.Entries.length c2] x.Space.Entries S2) (h3 : (tMachine.sl 80).O w [.slice A3 x.Threads.length c3] x.Threads S3) (h4 : I64 x.Turn) (h5 : I64 x.Left) (h6 : I64 x.Slice) : tProcess.O w [.slice A0 x.Space.Images.length c0, .slice A1 x.Space.Bases.length c1, .slice A2 x.Space.Entries.length c2, .slice A3 x.Threads.length c3, .int .i64 x.Turn, .int .i64 x.Left, .int .i64 x.Slice] x (S0 ++ S1 ++ S2 ++ S3) := by
  have h : tProcess.O w [.slice A0 x.Space.Images.length c0, .slice A1 x.Space.Bases.length c1, .slice A2 x.Space.Entries.length c2, .slice A3 x.Threads.length c3, .int .i64 x.Turn, .int .i64 x.Left, .int .i64 x.Slice] x ((S0 ++ (S1 ++ S2)) ++ (S3 ++ ([] ++ ([] ++ [])))) := ⟨[.slice A0 x.Space.Images.length c0, .slice A1 x.Space.Bases.length c1, .slice A2 x.Space.Entries.length c2], [.slice A3 x.Threads.length c3, .int .i64 x.Turn, .int .i64 x.Left, .int .i64 x.Slice], (S0 ++ (S1 ++ S2)), (S3 ++ ([] ++ ([] ++ []))), rfl, rfl, ⟨[.slice A0 x.Space.Images.length c0], [.slice A1 x.Space.Bases.length c1, .slice A2 x.Space.Entries.length c2], S0, (S1 ++ S2), rfl, rfl, h0, ⟨[.slice A1 x.Space.Bases.length c1], [.slice A2 x.Space.Entries.length c2], S1, S2, rfl, rfl, h1, h2⟩⟩, ⟨[.slice A3 x.Threads.length c3], [.int .i64 x.Turn, .int .i64 x.Left, .int .i64 x.Slice], S3, ([] ++ ([] ++ [])), rfl, rfl, h3, ⟨[.int .i64 x.Turn], [.int .i64 x.Left, .int .i64 x.Slice], [], ([] ++ []), rfl, rfl, ⟨rfl, h4.1, h4.2, rfl⟩, ⟨[.int .i64 x.Left], [.int .i64 x.Slice], [], [], rfl, rfl, ⟨rfl, h5.1, h5.2, rfl⟩, ⟨rfl, h6.1, h6.2, rfl⟩⟩⟩⟩⟩
  simpa using h
end Go.Proofs.Ytbhobjepjaeffaa
