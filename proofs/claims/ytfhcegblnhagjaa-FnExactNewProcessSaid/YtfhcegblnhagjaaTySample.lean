/-
  TYPES, written by a program (gentypefile.py): View, Sample.
-/
import Derived.Test.YtfhcegblnhagjaaProg
import Derived.Test.YtfhcegblnhagjaaOpen
import Derived.KernelRfl
set_option linter.unusedVariables false
set_option linter.unusedSimpArgs false
namespace Go.Proofs.Ytfhcegblnhagjaa
open Go.RowKit
structure DView where
  Pc : Int
  Sp : Int
  Fp : Int
  Words : List Int
  deriving DecidableEq
def tView : Ty DView := (intT.prod (intT.prod (intT.prod (intT.sl 3)))).via fun x => (x.Pc, x.Sp, x.Fp, x.Words)
theorem tView_R {w : World} {B : Nat} {cs : List Value} {x : DView} (h : tView.R w B cs x) : ∃ A0 c0, cs = [.int .i64 x.Pc, .int .i64 x.Sp, .int .i64 x.Fp, .slice A0 x.Words.length c0] ∧ I64 x.Pc ∧ I64 x.Sp ∧ I64 x.Fp ∧ (intT.sl 3).R w B [.slice A0 x.Words.length c0] x.Words := by
  obtain ⟨_, _, rfl, ⟨rfl, b1_Pc, b2_Pc⟩, ⟨_, _, rfl, ⟨rfl, b1_Sp, b2_Sp⟩, ⟨_, _, rfl, ⟨rfl, b1_Fp, b2_Fp⟩, s_Words⟩⟩⟩ := h
  obtain ⟨A0, c0, rfl, _⟩ := id s_Words
  exact ⟨A0, c0, rfl, ⟨b1_Pc, b2_Pc⟩, ⟨b1_Sp, b2_Sp⟩, ⟨b1_Fp, b2_Fp⟩, s_Words⟩
theorem tView_mkR {w : World} {B : Nat} {x : DView} (A0 : Option Addr) (c0 : Nat)  (h0 : I64 x.Pc) (h1 : I64 x.Sp) (h2 : I64 x.Fp) (h3 : (intT.sl 3).R w B [.slice A0 x.Words.length c0] x.Words) : tView.R w B [.int .i64 x.Pc, .int .i64 x.Sp, .int .i64 x.Fp, .slice A0 x.Words.length c0] x := by
  exact ⟨[.int .i64 x.Pc], [.int .i64 x.Sp, .int .i64 x.Fp, .slice A0 x.Words.length c0], rfl, ⟨rfl, h0.1, h0.2⟩, ⟨[.int .i64 x.Sp], [.int .i64 x.Fp, .slice A0 x.Words.length c0], rfl, ⟨rfl, h1.1, h1.2⟩, ⟨[.int .i64 x.Fp], [.slice A0 x.Words.length c0], rfl, ⟨rfl, h2.1, h2.2⟩, h3⟩⟩⟩
theorem tView_O {w : World} {cs : List Value} {x : DView} {S : List Nat} (h : tView.O w cs x S) : ∃ A0 c0 S0, cs = [.int .i64 x.Pc, .int .i64 x.Sp, .int .i64 x.Fp, .slice A0 x.Words.length c0] ∧ S = S0 ∧ I64 x.Pc ∧ I64 x.Sp ∧ I64 x.Fp ∧ (intT.sl 3).O w [.slice A0 x.Words.length c0] x.Words S0 := by
  obtain ⟨_, _, _, _, rfl, rfl, ⟨rfl, b1_Pc, b2_Pc, rfl⟩, ⟨_, _, _, _, rfl, rfl, ⟨rfl, b1_Sp, b2_Sp, rfl⟩, ⟨_, _, _, _, rfl, rfl, ⟨rfl, b1_Fp, b2_Fp, rfl⟩, s_Words⟩⟩⟩ := h
  obtain ⟨A0, c0, _, _, rfl, _⟩ := id s_Words
  exact ⟨A0, c0, _, rfl, by simp, ⟨b1_Pc, b2_Pc⟩, ⟨b1_Sp, b2_Sp⟩, ⟨b1_Fp, b2_Fp⟩, s_Words⟩
theorem tView_mkO {w : World} {x : DView} (A0 : Option Addr) (c0 : Nat) (S0 : List Nat)  (h0 : I64 x.Pc) (h1 : I64 x.Sp) (h2 : I64 x.Fp) (h3 : (intT.sl 3).O w [.slice A0 x.Words.length c0] x.Words S0) : tView.O w [.int .i64 x.Pc, .int .i64 x.Sp, .int .i64 x.Fp, .slice A0 x.Words.length c0] x (S0) := by
  have h : tView.O w [.int .i64 x.Pc, .int .i64 x.Sp, .int .i64 x.Fp, .slice A0 x.Words.length c0] x ([] ++ ([] ++ ([] ++ S0))) := ⟨[.int .i64 x.Pc], [.int .i64 x.Sp, .int .i64 x.Fp, .slice A0 x.Words.length c0], [], ([] ++ ([] ++ S0)), rfl, rfl, ⟨rfl, h0.1, h0.2, rfl⟩, ⟨[.int .i64 x.Sp], [.int .i64 x.Fp, .slice A0 x.Words.length c0], [], ([] ++ S0), rfl, rfl, ⟨rfl, h1.1, h1.2, rfl⟩, ⟨[.int .i64 x.Fp], [.slice A0 x.Words.length c0], [], S0, rfl, rfl, ⟨rfl, h2.1, h2.2, rfl⟩, h3⟩⟩⟩
  simpa using h
structure DSample where
  Thread : Int
  View : DView
  deriving DecidableEq
def tSample : Ty DSample := (intT.prod tView).via fun x => (x.Thread, x.View)
theorem tSample_R {w : World} {B : Nat} {cs : List Value} {x : DSample} (h : tSample.R w B cs x) : ∃ A0 c0, cs = [.int .i64 x.Thread, .int .i64 x.View.Pc, .int .i64 x.View.Sp, .int .i64 x.View.Fp, .slice A0 x.View.Words.length c0] ∧ I64 x.Thread ∧ I64 x.View.Pc ∧ I64 x.View.Sp ∧ I64 x.View.Fp ∧ (intT.sl 3).R w B [.slice A0 x.View.Words.length c0] x.View.Words := by
  obtain ⟨_, _, rfl, ⟨rfl, b1_Thread, b2_Thread⟩, ⟨_, _, rfl, ⟨rfl, b1_View_Pc, b2_View_Pc⟩, ⟨_, _, rfl, ⟨rfl, b1_View_Sp, b2_View_Sp⟩, ⟨_, _, rfl, ⟨rfl, b1_View_Fp, b2_View_Fp⟩, s_View_Words⟩⟩⟩⟩ := h
  obtain ⟨A0, c0, rfl, _⟩ := id s_View_Words
  exact ⟨A0, c0, rfl, ⟨b1_Thread, b2_Thread⟩, ⟨b1_View_Pc, b2_View_Pc⟩, ⟨b1_View_Sp, b2_View_Sp⟩, ⟨b1_View_Fp, b2_View_Fp⟩, s_View_Words⟩
theorem tSample_mkR {w : World} {B : Nat} {x : DSample} (A0 : Option Addr) (c0 : Nat)  (h0 : I64 x.Thread) (h1 : I64 x.View.Pc) (h2 : I64 x.View.Sp) (h3 : I64 x.View.Fp) (h4 : (intT.sl 3).R w B [.slice A0 x.View.Words.length c0] x.View.Words) : tSample.R w B [.int .i64 x.Thread, .int .i64 x.View.Pc, .int .i64 x.View.Sp, .int .i64 x.View.Fp, .slice A0 x.View.Words.length c0] x := by
  exact ⟨[.int .i64 x.Thread], [.int .i64 x.View.Pc, .int .i64 x.View.Sp, .int .i64 x.View.Fp, .slice A0 x.View.Words.length c0], rfl, ⟨rfl, h0.1, h0.2⟩, ⟨[.int .i64 x.View.Pc], [.int .i64 x.View.Sp, .int .i64 x.View.Fp, .slice A0 x.View.Words.length c0], rfl, ⟨rfl, h1.1, h1.2⟩, ⟨[.int .i64 x.View.Sp], [.int .i64 x.View.Fp, .slice A0 x.View.Words.length c0], rfl, ⟨rfl, h2.1, h2.2⟩, ⟨[.int .i64 x.View.Fp], [.slice A0 x.View.Words.length c0], rfl, ⟨rfl, h3.1, h3.2⟩, h4⟩⟩⟩⟩
theorem tSample_O {w : World} {cs : List Value} {x : DSample} {S : List Nat} (h : tSample.O w cs x S) : ∃ A0 c0 S0, cs = [.int .i64 x.Thread, .int .i64 x.View.Pc, .int .i64 x.View.Sp, .int .i64 x.View.Fp, .slice A0 x.View.Words.length c0] ∧ S = S0 ∧ I64 x.Thread ∧ I64 x.View.Pc ∧ I64 x.View.Sp ∧ I64 x.View.Fp ∧ (intT.sl 3).O w [.slice A0 x.View.Words.length c0] x.View.Words S0 := by
  obtain ⟨_, _, _, _, rfl, rfl, ⟨rfl, b1_Thread, b2_Thread, rfl⟩, ⟨_, _, _, _, rfl, rfl, ⟨rfl, b1_View_Pc, b2_View_Pc, rfl⟩, ⟨_, _, _, _, rfl, rfl, ⟨rfl, b1_View_Sp, b2_View_Sp, rfl⟩, ⟨_, _, _, _, rfl, rfl, ⟨rfl, b1_View_Fp, b2_View_Fp, rfl⟩, s_View_Words⟩⟩⟩⟩ := h
  obtain ⟨A0, c0, _, _, rfl, _⟩ := id s_View_Words
  exact ⟨A0, c0, _, rfl, by simp, ⟨b1_Thread, b2_Thread⟩, ⟨b1_View_Pc, b2_View_Pc⟩, ⟨b1_View_Sp, b2_View_Sp⟩, ⟨b1_View_Fp, b2_View_Fp⟩, s_View_Words⟩
theorem tSample_mkO {w : World} {x : DSample} (A0 : Option Addr) (c0 : Nat) (S0 : List Nat)  (h0 : I64 x.Thread) (h1 : I64 x.View.Pc) (h2 : I64 x.View.Sp) (h3 : I64 x.View.Fp) (h4 : (intT.sl 3).O w [.slice A0 x.View.Words.length c0] x.View.Words S0) : tSample.O w [.int .i64 x.Thread, .int .i64 x.View.Pc, .int .i64 x.View.Sp, .int .i64 x.View.Fp, .slice A0 x.View.Words.length c0] x (S0) := by
  have h : tSample.O w [.int .i64 x.Thread, .int .i64 x.View.Pc, .int .i64 x.View.Sp, .int .i64 x.View.Fp, .slice A0 x.View.Words.length c0] x ([] ++ ([] ++ ([] ++ ([] ++ S0)))) := ⟨[.int .i64 x.Thread], [.int .i64 x.View.Pc, .int .i64 x.View.Sp, .int .i64 x.View.Fp, .slice A0 x.View.Words.length c0], [], ([] ++ ([] ++ ([] ++ S0))), rfl, rfl, ⟨rfl, h0.1, h0.2, rfl⟩, ⟨[.int .i64 x.View.Pc], [.int .i64 x.View.Sp, .int .i64 x.View.Fp, .slice A0 x.View.Words.length c0], [], ([] ++ ([] ++ S0)), rfl, rfl, ⟨rfl, h1.1, h1.2, rfl⟩, ⟨[.int .i64 x.View.Sp], [.int .i64 x.View.Fp, .slice A0 x.View.Words.length c0], [], ([] ++ S0), rfl, rfl, ⟨rfl, h2.1, h2.2, rfl⟩, ⟨[.int .i64 x.View.Fp], [.slice A0 x.View.Words.length c0], [], S0, rfl, rfl, ⟨rfl, h3.1, h3.2, rfl⟩, h4⟩⟩⟩⟩
  simpa using h
end Go.Proofs.Ytfhcegblnhagjaa
