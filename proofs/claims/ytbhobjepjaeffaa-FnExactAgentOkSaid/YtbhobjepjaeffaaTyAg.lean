/-
  TYPES, written by a program (gentypefile.py): Rule, Row, Inline, Debug, Agent.
-/
import Derived.Test.YtbhobjepjaeffaaProg
import Derived.Test.YtbhobjepjaeffaaOpen
import Derived.KernelRfl
import Derived.Test.YtbhobjepjaeffaaTyProc
set_option linter.unusedVariables false
set_option linter.unusedSimpArgs false
namespace Go.Proofs.Ytbhobjepjaeffaa
open Go.RowKit
structure DRule where
  Start : Int
  End : Int
  Frame : Bool
  Depth : Int
  deriving DecidableEq
def tRule : Ty DRule := (intT.prod (intT.prod (boolT.prod intT))).via fun x => (x.Start, x.End, x.Frame, x.Depth)
theorem tRule_opens : Opens Try.prog 187 tRule := opens_via _ (fun x => ⟨x.1, x.2.1, x.2.2.1, x.2.2.2⟩) (fun _ => rfl) (opens_struct Try.underlying187 (by kernel_rfl) (opF_cons rfl (by kernel_rfl) (opens_int Try.underlying3) (opF_cons rfl (by kernel_rfl) (opens_int Try.underlying3) (opF_cons rfl (by kernel_rfl) (opens_bool Try.underlying4) (opF_one rfl (by kernel_rfl) (opens_int Try.underlying3))))))
theorem tRule_R {w : World} {B : Nat} {cs : List Value} {x : DRule} (h : tRule.R w B cs x) : cs = [.int .i64 x.Start, .int .i64 x.End, .bool x.Frame, .int .i64 x.Depth] ∧ I64 x.Start ∧ I64 x.End ∧ I64 x.Depth := by
  obtain ⟨_, _, rfl, ⟨rfl, b1_Start, b2_Start⟩, ⟨_, _, rfl, ⟨rfl, b1_End, b2_End⟩, ⟨_, _, rfl, rfl, ⟨rfl, b1_Depth, b2_Depth⟩⟩⟩⟩ := h
  exact ⟨rfl, ⟨b1_Start, b2_Start⟩, ⟨b1_End, b2_End⟩, ⟨b1_Depth, b2_Depth⟩⟩
theorem tRule_mkR {w : World} {B : Nat} {x : DRule}  (h0 : I64 x.Start) (h1 : I64 x.End) (h2 : I64 x.Depth) : tRule.R w B [.int .i64 x.Start, .int .i64 x.End, .bool x.Frame, .int .i64 x.Depth] x := by
  exact ⟨[.int .i64 x.Start], [.int .i64 x.End, .bool x.Frame, .int .i64 x.Depth], rfl, ⟨rfl, h0.1, h0.2⟩, ⟨[.int .i64 x.End], [.bool x.Frame, .int .i64 x.Depth], rfl, ⟨rfl, h1.1, h1.2⟩, ⟨[.bool x.Frame], [.int .i64 x.Depth], rfl, rfl, ⟨rfl, h2.1, h2.2⟩⟩⟩⟩
theorem tRule_O {w : World} {cs : List Value} {x : DRule} {S : List Nat} (h : tRule.O w cs x S) : cs = [.int .i64 x.Start, .int .i64 x.End, .bool x.Frame, .int .i64 x.Depth] ∧ S = [] ∧ I64 x.Start ∧ I64 x.End ∧ I64 x.Depth := by
  obtain ⟨_, _, _, _, rfl, rfl, ⟨rfl, b1_Start, b2_Start, rfl⟩, ⟨_, _, _, _, rfl, rfl, ⟨rfl, b1_End, b2_End, rfl⟩, ⟨_, _, _, _, rfl, rfl, ⟨rfl, rfl⟩, ⟨rfl, b1_Depth, b2_Depth, rfl⟩⟩⟩⟩ := h
  exact ⟨rfl, rfl, ⟨b1_Start, b2_Start⟩, ⟨b1_End, b2_End⟩, ⟨b1_Depth, b2_Depth⟩⟩
theorem tRule_mkO {w : World} {x : DRule}  (h0 : I64 x.Start) (h1 : I64 x.End) (h2 : I64 x.Depth) : tRule.O w [.int .i64 x.Start, .int .i64 x.End, .bool x.Frame, .int .i64 x.Depth] x ([]) := by
  exact ⟨[.int .i64 x.Start], [.int .i64 x.End, .bool x.Frame, .int .i64 x.Depth], [], ([] ++ ([] ++ [])), rfl, rfl, ⟨rfl, h0.1, h0.2, rfl⟩, ⟨[.int .i64 x.End], [.bool x.Frame, .int .i64 x.Depth], [], ([] ++ []), rfl, rfl, ⟨rfl, h1.1, h1.2, rfl⟩, ⟨[.bool x.Frame], [.int .i64 x.Depth], [], [], rfl, rfl, ⟨rfl, rfl⟩, ⟨rfl, h2.1, h2.2, rfl⟩⟩⟩⟩
structure DRow where
  Offset : Int
  Line : Int
  Start : Bool
  deriving DecidableEq
def tRow : Ty DRow := (intT.prod (intT.prod boolT)).via fun x => (x.Offset, x.Line, x.Start)
theorem tRow_opens : Opens Try.prog 191 tRow := opens_via _ (fun x => ⟨x.1, x.2.1, x.2.2⟩) (fun _ => rfl) (opens_struct Try.underlying191 (by kernel_rfl) (opF_cons rfl (by kernel_rfl) (opens_int Try.underlying3) (opF_cons rfl (by kernel_rfl) (opens_int Try.underlying3) (opF_one rfl (by kernel_rfl) (opens_bool Try.underlying4)))))
theorem tRow_R {w : World} {B : Nat} {cs : List Value} {x : DRow} (h : tRow.R w B cs x) : cs = [.int .i64 x.Offset, .int .i64 x.Line, .bool x.Start] ∧ I64 x.Offset ∧ I64 x.Line := by
  obtain ⟨_, _, rfl, ⟨rfl, b1_Offset, b2_Offset⟩, ⟨_, _, rfl, ⟨rfl, b1_Line, b2_Line⟩, rfl⟩⟩ := h
  exact ⟨rfl, ⟨b1_Offset, b2_Offset⟩, ⟨b1_Line, b2_Line⟩⟩
theorem tRow_mkR {w : World} {B : Nat} {x : DRow}  (h0 : I64 x.Offset) (h1 : I64 x.Line) : tRow.R w B [.int .i64 x.Offset, .int .i64 x.Line, .bool x.Start] x := by
  exact ⟨[.int .i64 x.Offset], [.int .i64 x.Line, .bool x.Start], rfl, ⟨rfl, h0.1, h0.2⟩, ⟨[.int .i64 x.Line], [.bool x.Start], rfl, ⟨rfl, h1.1, h1.2⟩, rfl⟩⟩
theorem tRow_O {w : World} {cs : List Value} {x : DRow} {S : List Nat} (h : tRow.O w cs x S) : cs = [.int .i64 x.Offset, .int .i64 x.Line, .bool x.Start] ∧ S = [] ∧ I64 x.Offset ∧ I64 x.Line := by
  obtain ⟨_, _, _, _, rfl, rfl, ⟨rfl, b1_Offset, b2_Offset, rfl⟩, ⟨_, _, _, _, rfl, rfl, ⟨rfl, b1_Line, b2_Line, rfl⟩, ⟨rfl, rfl⟩⟩⟩ := h
  exact ⟨rfl, rfl, ⟨b1_Offset, b2_Offset⟩, ⟨b1_Line, b2_Line⟩⟩
theorem tRow_mkO {w : World} {x : DRow}  (h0 : I64 x.Offset) (h1 : I64 x.Line) : tRow.O w [.int .i64 x.Offset, .int .i64 x.Line, .bool x.Start] x ([]) := by
  exact ⟨[.int .i64 x.Offset], [.int .i64 x.Line, .bool x.Start], [], ([] ++ []), rfl, rfl, ⟨rfl, h0.1, h0.2, rfl⟩, ⟨[.int .i64 x.Line], [.bool x.Start], [], [], rfl, rfl, ⟨rfl, h1.1, h1.2, rfl⟩, ⟨rfl, rfl⟩⟩⟩
structure DInline where
  Start : Int
  End : Int
  Level : Int
  Line : Int
  Name : ByteArray
  deriving DecidableEq
def tInline : Ty DInline := (intT.prod (intT.prod (intT.prod (intT.prod strT)))).via fun x => (x.Start, x.End, x.Level, x.Line, x.Name)
theorem tInline_opens : Opens Try.prog 183 tInline := opens_via _ (fun x => ⟨x.1, x.2.1, x.2.2.1, x.2.2.2.1, x.2.2.2.2⟩) (fun _ => rfl) (opens_struct Try.underlying183 (by kernel_rfl) (opF_cons rfl (by kernel_rfl) (opens_int Try.underlying3) (opF_cons rfl (by kernel_rfl) (opens_int Try.underlying3) (opF_cons rfl (by kernel_rfl) (opens_int Try.underlying3) (opF_cons rfl (by kernel_rfl) (opens_int Try.underlying3) (opF_one rfl (by kernel_rfl) (opens_str Try.underlying9)))))))
theorem tInline_R {w : World} {B : Nat} {cs : List Value} {x : DInline} (h : tInline.R w B cs x) : cs = [.int .i64 x.Start, .int .i64 x.End, .int .i64 x.Level, .int .i64 x.Line, .string x.Name] ∧ I64 x.Start ∧ I64 x.End ∧ I64 x.Level ∧ I64 x.Line ∧ x.Name.size ≤ 9223372036854775807 := by
  obtain ⟨_, _, rfl, ⟨rfl, b1_Start, b2_Start⟩, ⟨_, _, rfl, ⟨rfl, b1_End, b2_End⟩, ⟨_, _, rfl, ⟨rfl, b1_Level, b2_Level⟩, ⟨_, _, rfl, ⟨rfl, b1_Line, b2_Line⟩, ⟨rfl, b1_Name⟩⟩⟩⟩⟩ := h
  exact ⟨rfl, ⟨b1_Start, b2_Start⟩, ⟨b1_End, b2_End⟩, ⟨b1_Level, b2_Level⟩, ⟨b1_Line, b2_Line⟩, b1_Name⟩
theorem tInline_mkR {w : World} {B : Nat} {x : DInline}  (h0 : I64 x.Start) (h1 : I64 x.End) (h2 : I64 x.Level) (h3 : I64 x.Line) (h4 : x.Name.size ≤ 9223372036854775807) : tInline.R w B [.int .i64 x.Start, .int .i64 x.End, .int .i64 x.Level, .int .i64 x.Line, .string x.Name] x := by
  exact ⟨[.int .i64 x.Start], [.int .i64 x.End, .int .i64 x.Level, .int .i64 x.Line, .string x.Name], rfl, ⟨rfl, h0.1, h0.2⟩, ⟨[.int .i64 x.End], [.int .i64 x.Level, .int .i64 x.Line, .string x.Name], rfl, ⟨rfl, h1.1, h1.2⟩, ⟨[.int .i64 x.Level], [.int .i64 x.Line, .string x.Name], rfl, ⟨rfl, h2.1, h2.2⟩, ⟨[.int .i64 x.Line], [.string x.Name], rfl, ⟨rfl, h3.1, h3.2⟩, ⟨rfl, h4⟩⟩⟩⟩⟩
theorem tInline_O {w : World} {cs : List Value} {x : DInline} {S : List Nat} (h : tInline.O w cs x S) : cs = [.int .i64 x.Start, .int .i64 x.End, .int .i64 x.Level, .int .i64 x.Line, .string x.Name] ∧ S = [] ∧ I64 x.Start ∧ I64 x.End ∧ I64 x.Level ∧ I64 x.Line ∧ x.Name.size ≤ 9223372036854775807 := by
  obtain ⟨_, _, _, _, rfl, rfl, ⟨rfl, b1_Start, b2_Start, rfl⟩, ⟨_, _, _, _, rfl, rfl, ⟨rfl, b1_End, b2_End, rfl⟩, ⟨_, _, _, _, rfl, rfl, ⟨rfl, b1_Level, b2_Level, rfl⟩, ⟨_, _, _, _, rfl, rfl, ⟨rfl, b1_Line, b2_Line, rfl⟩, ⟨rfl, b1_Name, rfl⟩⟩⟩⟩⟩ := h
  exact ⟨rfl, rfl, ⟨b1_Start, b2_Start⟩, ⟨b1_End, b2_End⟩, ⟨b1_Level, b2_Level⟩, ⟨b1_Line, b2_Line⟩, b1_Name⟩
theorem tInline_mkO {w : World} {x : DInline}  (h0 : I64 x.Start) (h1 : I64 x.End) (h2 : I64 x.Level) (h3 : I64 x.Line) (h4 : x.Name.size ≤ 9223372036854775807) : tInline.O w [.int .i64 x.Start, .int .i64 x.End, .int .i64 x.Level, .int .i64 x.Line, .string x.Name] x ([]) := by
  exact ⟨[.int .i64 x.Start], [.int .i64 x.End, .int .i64 x.Level, .int .i64 x.Line, .string x.Name], [], ([] ++ ([] ++ ([] ++ []))), rfl, rfl, ⟨rfl, h0.1, h0.2, rfl⟩, ⟨[.int .i64 x.End], [.int .i64 x.Level, .int .i64 x.Line, .string x.Name], [], ([] ++ ([] ++ [])), rfl, rfl, ⟨rfl, h1.1, h1.2, rfl⟩, ⟨[.int .i64 x.Level], [.int .i64 x.Line, .string x.Name], [], ([] ++ []), rfl, rfl, ⟨rfl, h2.1, h2.2, rfl⟩, ⟨[.int .i64 x.Line], [.string x.Name], [], [], rfl, rfl, ⟨rfl, h3.1, h3.2, rfl⟩, ⟨rfl, h4, rfl⟩⟩⟩⟩⟩
structure DDebug where
  Id : Int
  Symbols : List DSymbol
  Rules : List DRule
  Rows : List DRow
  Inlines : List DInline
  deriving DecidableEq
def tDebug : Ty DDebug := (intT.prod ((tSymbol.sl 118).prod ((tRule.sl 185).prod ((tRow.sl 189).prod (tInline.sl 192))))).via fun x => (x.Id, x.Symbols, x.Rules, x.Rows, x.Inlines)
theorem tDebug_opens : Opens Try.prog 136 tDebug := opens_via _ (fun x => ⟨x.1, x.2.1, x.2.2.1, x.2.2.2.1, x.2.2.2.2⟩) (fun _ => rfl) (opens_struct Try.underlying136 (by kernel_rfl) (opF_cons rfl (by kernel_rfl) (opens_int Try.underlying3) (opF_cons rfl (by kernel_rfl) (opens_sl Try.underlying123 (by kernel_rfl) (by decide) tSymbol_opens) (opF_cons rfl (by kernel_rfl) (opens_sl Try.underlying132 (by kernel_rfl) (by decide) tRule_opens) (opF_cons rfl (by kernel_rfl) (opens_sl Try.underlying133 (by kernel_rfl) (by decide) tRow_opens) (opF_one rfl (by kernel_rfl) (opens_sl Try.underlying134 (by kernel_rfl) (by decide) tInline_opens)))))))
theorem tDebug_R {w : World} {B : Nat} {cs : List Value} {x : DDebug} (h : tDebug.R w B cs x) : ∃ A0 c0 A1 c1 A2 c2 A3 c3, cs = [.int .i64 x.Id, .slice A0 x.Symbols.length c0, .slice A1 x.Rules.length c1, .slice A2 x.Rows.length c2, .slice A3 x.Inlines.length c3] ∧ I64 x.Id ∧ (tSymbol.sl 118).R w B [.slice A0 x.Symbols.length c0] x.Symbols ∧ (tRule.sl 185).R w B [.slice A1 x.Rules.length c1] x.Rules ∧ (tRow.sl 189).R w B [.slice A2 x.Rows.length c2] x.Rows ∧ (tInline.sl 192).R w B [.slice A3 x.Inlines.length c3] x.Inlines := by
  obtain ⟨_, _, rfl, ⟨rfl, b1_Id, b2_Id⟩, ⟨_, _, rfl, s_Symbols, ⟨_, _, rfl, s_Rules, ⟨_, _, rfl, s_Rows, s_Inlines⟩⟩⟩⟩ := h
  obtain ⟨A0, c0, rfl, _⟩ := id s_Symbols
  obtain ⟨A1, c1, rfl, _⟩ := id s_Rules
  obtain ⟨A2, c2, rfl, _⟩ := id s_Rows
  obtain ⟨A3, c3, rfl, _⟩ := id s_Inlines
  exact ⟨A0, c0, A1, c1, A2, c2, A3, c3, rfl, ⟨b1_Id, b2_Id⟩, s_Symbols, s_Rules, s_Rows, s_Inlines⟩
theorem tDebug_mkR {w : World} {B : Nat} {x : DDebug} (A0 : Option Addr) (c0 : Nat) (A1 : Option Addr) (c1 : Nat) (A2 : Option Addr) (c2 : Nat) (A3 : Option Addr) (c3 : Nat)  (h0 : I64 x.Id) (h1 : (tSymbol.sl 118).R w B [.slice A0 x.Symbols.length c0] x.Symbols) (h2 : (tRule.sl 185).R w B [.slice A1 x.Rules.length c1] x.Rules) (h3 : (tRow.sl 189).R w B [.slice A2 x.Rows.length c2] x.Rows) (h4 : (tInline.sl 192).R w B [.slice A3 x.Inlines.length c3] x.Inlines) : tDebug.R w B [.int .i64 x.Id, .slice A0 x.Symbols.length c0, .slice A1 x.Rules.length c1, .slice A2 x.Rows.length c2, .slice A3 x.Inlines.length c3] x := by
  exact ⟨[.int .i64 x.Id], [.slice A0 x.Symbols.length c0, .slice A1 x.Rules.length c1, .slice A2 x.Rows.length c2, .slice A3 x.Inlines.length c3], rfl, ⟨rfl, h0.1, h0.2⟩, ⟨[.slice A0 x.Symbols.length c0], [.slice A1 x.Rules.length c1, .slice A2 x.Rows.length c2, .slice A3 x.Inlines.length c3], rfl, h1, ⟨[.slice A1 x.Rules.length c1], [.slice A2 x.Rows.length c2, .slice A3 x.Inlines.length c3], rfl, h2, ⟨[.slice A2 x.Rows.length c2], [.slice A3 x.Inlines.length c3], rfl, h3, h4⟩⟩⟩⟩
theorem tDebug_O {w : World} {cs : List Value} {x : DDebug} {S : List Nat} (h : tDebug.O w cs x S) : ∃ A0 c0 S0 A1 c1 S1 A2 c2 S2 A3 c3 S3, cs = [.int .i64 x.Id, .slice A0 x.Symbols.length c0, .slice A1 x.Rules.length c1, .slice A2 x.Rows.length c2, .slice A3 x.Inlines.length c3] ∧ S = S0 ++ S1 ++ S2 ++ S3 ∧ I64 x.Id ∧ (tSymbol.sl 118).O w [.slice A0 x.Symbols.length c0] x.Symbols S0 ∧ (tRule.sl 185).O w [.slice A1 x.Rules.length c1] x.Rules S1 ∧ (tRow.sl 189).O w [.slice A2 x.Rows.length c2] x.Rows S2 ∧ (tInline.sl 192).O w [.slice A3 x.Inlines.length c3] x.Inlines S3 := by
  obtain ⟨_, _, _, _, rfl, rfl, ⟨rfl, b1_Id, b2_Id, rfl⟩, ⟨_, _, _, _, rfl, rfl, s_Symbols, ⟨_, _, _, _, rfl, rfl, s_Rules, ⟨_, _, _, _, rfl, rfl, s_Rows, s_Inlines⟩⟩⟩⟩ := h
  obtain ⟨A0, c0, _, _, rfl, _⟩ := id s_Symbols
  obtain ⟨A1, c1, _, _, rfl, _⟩ := id s_Rules
  obtain ⟨A2, c2, _, _, rfl, _⟩ := id s_Rows
  obtain ⟨A3, c3, _, _, rfl, _⟩ := id s_Inlines
  exact ⟨A0, c0, _, A1, c1, _, A2, c2, _, A3, c3, _, rfl, by simp, ⟨b1_Id, b2_Id⟩, s_Symbols, s_Rules, s_Rows, s_Inlines⟩
theorem tDebug_mkO {w : World} {x : DDebug} (A0 : Option Addr) (c0 : Nat) (S0 : List Nat) (A1 : Option Addr) (c1 : Nat) (S1 : List Nat) (A2 : Option Addr) (c2 : Nat) (S2 : List Nat) (A3 : Option Addr) (c3 : Nat) (S3 : List Nat)  (h0 : I64 x.Id) (h1 : (tSymbol.sl 118).O w [.slice A0 x.Symbols.length c0] x.Symbols S0) (h2 : (tRule.sl 185).O w [.slice A1 x.Rules.length c1] x.Rules S1) (h3 : (tRow.sl 189).O w [.slice A2 x.Rows.length c2] x.Rows S2) (h4 : (tInline.sl 192).O w [.slice A3 x.Inlines.length c3] x.Inlines S3) : tDebug.O w [.int .i64 x.Id, .slice A0 x.Symbols.length c0, .slice A1 x.Rules.length c1, .slice A2 x.Rows.length c2, .slice A3 x.Inlines.length c3] x (S0 ++ S1 ++ S2 ++ S3) := by
  have h : tDebug.O w [.int .i64 x.Id, .slice A0 x.Symbols.length c0, .slice A1 x.Rules.length c1, .slice A2 x.Rows.length c2, .slice A3 x.Inlines.length c3] x ([] ++ (S0 ++ (S1 ++ (S2 ++ S3)))) := ⟨[.int .i64 x.Id], [.slice A0 x.Symbols.length c0, .slice A1 x.Rules.length c1, .slice A2 x.Rows.length c2, .slice A3 x.Inlines.length c3], [], (S0 ++ (S1 ++ (S2 ++ S3))), rfl, rfl, ⟨rfl, h0.1, h0.2, rfl⟩, ⟨[.slice A0 x.Symbols.length c0], [.slice A1 x.Rules.length c1, .slice A2 x.Rows.length c2, .slice A3 x.Inlines.length c3], S0, (S1 ++ (S2 ++ S3)), rfl, rfl, h1, ⟨[.slice A1 x.Rules.length c1], [.slice A2 x.Rows.length c2, .slice A3 x.Inlines.length c3], S1, (S2 ++ S3), rfl, rfl, h2, ⟨[.slice A2 x.Rows.length c2], [.slice A3 x.Inlines.length c3], S2, S3, rfl, rfl, h3, h4⟩⟩⟩⟩
  simpa using h
structure DAgent where
  Space : DSpace
  Debugs : List DDebug
  deriving DecidableEq
def tAgent : Ty DAgent := (tSpace.prod (tDebug.sl 101)).via fun x => (x.Space, x.Debugs)
theorem tAgent_opens : Opens Try.prog 50 tAgent := opens_via _ (fun x => ⟨x.1, x.2⟩) (fun _ => rfl) (opens_struct Try.underlying50 (by kernel_rfl) (opF_cons rfl (by kernel_rfl) tSpace_opens (opF_one rfl (by kernel_rfl) (opens_sl Try.underlying48 (by kernel_rfl) (by decide) tDebug_opens))))
theorem tAgent_R {w : World} {B : Nat} {cs : List Value} {x : DAgent} (h : tAgent.R w B cs x) : ∃ A0 c0 A1 c1 A2 c2 A3 c3, cs = [.slice A0 x.Space.Images.length c0, .slice A1 x.Space.Bases.length c1, .slice A2 x.Space.Entries.length c2, .slice A3 x.Debugs.length c3] ∧ (tImage.sl 96).R w B [.slice A0 x.Space.Images.length c0] x.Space.Images ∧ (intT.sl 3).R w B [.slice A1 x.Space.Bases.length c1] x.Space.Bases ∧ (intT.sl 3).R w B [.slice A2 x.Space.Entries.length c2] x.Space.Entries ∧ (tDebug.sl 101).R w B [.slice A3 x.Debugs.length c3] x.Debugs := by
  obtain ⟨_, _, rfl, ⟨_, _, rfl, s_Space_Images, ⟨_, _, rfl, s_Space_Bases, s_Space_Entries⟩⟩, s_Debugs⟩ := h
  obtain ⟨A0, c0, rfl, _⟩ := id s_Space_Images
  obtain ⟨A1, c1, rfl, _⟩ := id s_Space_Bases
  obtain ⟨A2, c2, rfl, _⟩ := id s_Space_Entries
  obtain ⟨A3, c3, rfl, _⟩ := id s_Debugs
  exact ⟨A0, c0, A1, c1, A2, c2, A3, c3, rfl, s_Space_Images, s_Space_Bases, s_Space_Entries, s_Debugs⟩
theorem tAgent_mkR {w : World} {B : Nat} {x : DAgent} (A0 : Option Addr) (c0 : Nat) (A1 : Option Addr) (c1 : Nat) (A2 : Option Addr) (c2 : Nat) (A3 : Option Addr) (c3 : Nat)  (h0 : (tImage.sl 96).R w B [.slice A0 x.Space.Images.length c0] x.Space.Images) (h1 : (intT.sl 3).R w B [.slice A1 x.Space.Bases.length c1] x.Space.Bases) (h2 : (intT.sl 3).R w B [.slice A2 x.Space.Entries.length c2] x.Space.Entries) (h3 : (tDebug.sl 101).R w B [.slice A3 x.Debugs.length c3] x.Debugs) : tAgent.R w B [.slice A0 x.Space.Images.length c0, .slice A1 x.Space.Bases.length c1, .slice A2 x.Space.Entries.length c2, .slice A3 x.Debugs.length c3] x := by
  exact ⟨[.slice A0 x.Space.Images.length c0, .slice A1 x.Space.Bases.length c1, .slice A2 x.Space.Entries.length c2], [.slice A3 x.Debugs.length c3], rfl, ⟨[.slice A0 x.Space.Images.length c0], [.slice A1 x.Space.Bases.length c1, .slice A2 x.Space.Entries.length c2], rfl, h0, ⟨[.slice A1 x.Space.Bases.length c1], [.slice A2 x.Space.Entries.length c2], rfl, h1, h2⟩⟩, h3⟩
theorem tAgent_O {w : World} {cs : List Value} {x : DAgent} {S : List Nat} (h : tAgent.O w cs x S) : ∃ A0 c0 S0 A1 c1 S1 A2 c2 S2 A3 c3 S3, cs = [.slice A0 x.Space.Images.length c0, .slice A1 x.Space.Bases.length c1, .slice A2 x.Space.Entries.length c2, .slice A3 x.Debugs.length c3] ∧ S = S0 ++ S1 ++ S2 ++ S3 ∧ (tImage.sl 96).O w [.slice A0 x.Space.Images.length c0] x.Space.Images S0 ∧ (intT.sl 3).O w [.slice A1 x.Space.Bases.length c1] x.Space.Bases S1 ∧ (intT.sl 3).O w [.slice A2 x.Space.Entries.length c2] x.Space.Entries S2 ∧ (tDebug.sl 101).O w [.slice A3 x.Debugs.length c3] x.Debugs S3 := by
  obtain ⟨_, _, _, _, rfl, rfl, ⟨_, _, _, _, rfl, rfl, s_Space_Images, ⟨_, _, _, _, rfl, rfl, s_Space_Bases, s_Space_Entries⟩⟩, s_Debugs⟩ := h
  obtain ⟨A0, c0, _, _, rfl, _⟩ := id s_Space_Images
  obtain ⟨A1, c1, _, _, rfl, _⟩ := id s_Space_Bases
  obtain ⟨A2, c2, _, _, rfl, _⟩ := id s_Space_Entries
  obtain ⟨A3, c3, _, _, rfl, _⟩ := id s_Debugs
  exact ⟨A0, c0, _, A1, c1, _, A2, c2, _, A3, c3, _, rfl, by simp, s_Space_Images, s_Space_Bases, s_Space_Entries, s_Debugs⟩
theorem tAgent_mkO {w : World} {x : DAgent} (A0 : Option Addr) (c0 : Nat) (S0 : List Nat) (A1 : Option Addr) (c1 : Nat) (S1 : List Nat) (A2 : Option Addr) (c2 : Nat) (S2 : List Nat) (A3 : Option Addr) (c3 : Nat) (S3 : List Nat)  (h0 : (tImage.sl 96).O w [.slice A0 x.Space.Images.length c0] x.Space.Images S0) (h1 : (intT.sl 3).O w [.slice A1 x.Space.Bases.length c1] x.Space.Bases S1) (h2 : (intT.sl 3).O w [.slice A2 x.Space.Entries.length c2] x.Space.Entries S2) (h3 : (tDebug.sl 101).O w [.slice A3 x.Debugs.length c3] x.Debugs S3) : tAgent.O w [.slice A0 x.Space.Images.length c0, .slice A1 x.Space.Bases.length c1, .slice A2 x.Space.Entries.length c2, .slice A3 x.Debugs.length c3] x (S0 ++ S1 ++ S2 ++ S3) := by
  have h : tAgent.O w [.slice A0 x.Space.Images.length c0, .slice A1 x.Space.Bases.length c1, .slice A2 x.Space.Entries.length c2, .slice A3 x.Debugs.length c3] x ((S0 ++ (S1 ++ S2)) ++ S3) := ⟨[.slice A0 x.Space.Images.length c0, .slice A1 x.Space.Bases.length c1, .slice A2 x.Space.Entries.length c2], [.slice A3 x.Debugs.length c3], (S0 ++ (S1 ++ S2)), S3, rfl, rfl, ⟨[.slice A0 x.Space.Images.length c0], [.slice A1 x.Space.Bases.length c1, .slice A2 x.Space.Entries.length c2], S0, (S1 ++ S2), rfl, rfl, h0, ⟨[.slice A1 x.Space.Bases.length c1], [.slice A2 x.Space.Entries.length c2], S1, S2, rfl, rfl, h1, h2⟩⟩, h3⟩
  simpa using h
end Go.Proofs.Ytbhobjepjaeffaa
