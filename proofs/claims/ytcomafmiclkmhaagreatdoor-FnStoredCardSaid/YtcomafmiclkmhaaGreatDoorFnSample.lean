/-
  STRUCTS, written by a program (genfun.py): View, Sample: the laws' own toX, szX, eqX.
-/
import Derived.Test.YtcomafmiclkmhaaGreatDoorLists
import Derived.Test.YtcomafmiclkmhaaGreatDoorTySample
set_option linter.unusedVariables false
set_option linter.unusedSimpArgs false
namespace Go.Proofs.YtcomafmiclkmhaaGreatDoor
open Go.RowKit
def RetView (x : DView) (w : World) (r : Ending) (w' : World) : Prop := ∃ A0 c0, r = .returned (.agg #[.int .i64 x.Pc, .int .i64 x.Sp, .int .i64 x.Fp, .slice A0 x.Words.length c0]) ∧ Fresh tView w w' [.int .i64 x.Pc, .int .i64 x.Sp, .int .i64 x.Fp, .slice A0 x.Words.length c0] x ∧ Gro w w'
theorem tView_mkOd {w : World} {x : DView} {A0 : Option Addr} {c0 : Nat} {S3 : List Nat} (h0 : I64 x.Pc) (h1 : I64 x.Sp) (h2 : I64 x.Fp) (h3 : (intT.sl 3).O w [.slice A0 x.Words.length c0] x.Words S3) : tView.O w [.int .i64 x.Pc, .int .i64 x.Sp, .int .i64 x.Fp, .slice A0 x.Words.length c0] x (S3) := by
  have h : tView.O w [.int .i64 x.Pc, .int .i64 x.Sp, .int .i64 x.Fp, .slice A0 x.Words.length c0] x ([] ++ ([] ++ ([] ++ S3))) := ⟨[.int .i64 x.Pc], [.int .i64 x.Sp, .int .i64 x.Fp, .slice A0 x.Words.length c0], [], ([] ++ ([] ++ S3)), rfl, rfl, ⟨rfl, h0.1, h0.2, rfl⟩, ⟨[.int .i64 x.Sp], [.int .i64 x.Fp, .slice A0 x.Words.length c0], [], ([] ++ S3), rfl, rfl, ⟨rfl, h1.1, h1.2, rfl⟩, ⟨[.int .i64 x.Fp], [.slice A0 x.Words.length c0], [], S3, rfl, rfl, ⟨rfl, h2.1, h2.2, rfl⟩, h3⟩⟩⟩
  simpa using h
theorem tView_fresh {w W : World} {x : DView} {A0 : Option Addr} {c0 : Nat} {u3 : World} {m3 : Nat} (h0 : I64 x.Pc) (h1 : I64 x.Sp) (h2 : I64 x.Fp) (h3 : Fre (intT.sl 3) u3 m3 W [.slice A0 x.Words.length c0] x.Words) (hw3 : w.heap.size ≤ u3.heap.size) : Fresh tView w W [.int .i64 x.Pc, .int .i64 x.Sp, .int .i64 x.Fp, .slice A0 x.Words.length c0] x := by
  obtain ⟨S3, hO3, hN3, hI3⟩ := h3
  exact ⟨_, tView_mkOd h0 h1 h2 hO3, hN3, fun b hb => (by have := hI3 b hb; omega)⟩
theorem eq_DView {x y : DView} : x = y ↔ x.Pc = y.Pc ∧ x.Sp = y.Sp ∧ x.Fp = y.Fp ∧ x.Words = y.Words := by
  cases x
  cases y
  simp
def szView (x : DView) : Nat := x.Words.length
def cntView (x : DView) : Nat := x.Words.length
def mkView (x : DView) (k : Int) : DView := { x with Words := mkInts x.Words k }
def RetSample (x : DSample) (w : World) (r : Ending) (w' : World) : Prop := ∃ A0 c0, r = .returned (.agg #[.int .i64 x.Thread, .int .i64 x.View.Pc, .int .i64 x.View.Sp, .int .i64 x.View.Fp, .slice A0 x.View.Words.length c0]) ∧ Fresh tSample w w' [.int .i64 x.Thread, .int .i64 x.View.Pc, .int .i64 x.View.Sp, .int .i64 x.View.Fp, .slice A0 x.View.Words.length c0] x ∧ Gro w w'
theorem tSample_mkOd {w : World} {x : DSample} {A0 : Option Addr} {c0 : Nat} {S1 : List Nat} (h0 : I64 x.Thread) (h1 : tView.O w [.int .i64 x.View.Pc, .int .i64 x.View.Sp, .int .i64 x.View.Fp, .slice A0 x.View.Words.length c0] x.View S1) : tSample.O w [.int .i64 x.Thread, .int .i64 x.View.Pc, .int .i64 x.View.Sp, .int .i64 x.View.Fp, .slice A0 x.View.Words.length c0] x (S1) := by
  have h : tSample.O w [.int .i64 x.Thread, .int .i64 x.View.Pc, .int .i64 x.View.Sp, .int .i64 x.View.Fp, .slice A0 x.View.Words.length c0] x ([] ++ S1) := ⟨[.int .i64 x.Thread], [.int .i64 x.View.Pc, .int .i64 x.View.Sp, .int .i64 x.View.Fp, .slice A0 x.View.Words.length c0], [], S1, rfl, rfl, ⟨rfl, h0.1, h0.2, rfl⟩, h1⟩
  simpa using h
theorem tSample_fresh {w W : World} {x : DSample} {A0 : Option Addr} {c0 : Nat} {u1 : World} {m1 : Nat} (h0 : I64 x.Thread) (h1 : Fre tView u1 m1 W [.int .i64 x.View.Pc, .int .i64 x.View.Sp, .int .i64 x.View.Fp, .slice A0 x.View.Words.length c0] x.View) (hw1 : w.heap.size ≤ u1.heap.size) : Fresh tSample w W [.int .i64 x.Thread, .int .i64 x.View.Pc, .int .i64 x.View.Sp, .int .i64 x.View.Fp, .slice A0 x.View.Words.length c0] x := by
  obtain ⟨S1, hO1, hN1, hI1⟩ := h1
  exact ⟨_, tSample_mkOd h0 hO1, hN1, fun b hb => (by have := hI1 b hb; omega)⟩
theorem eq_DSample {x y : DSample} : x = y ↔ x.Thread = y.Thread ∧ x.View = y.View := by
  cases x
  cases y
  simp
def szSample (x : DSample) : Nat := szView x.View
def cntSample (x : DSample) : Nat := cntView x.View
def mkSample (x : DSample) (k : Int) : DSample := { x with View := mkView x.View k }
end Go.Proofs.YtcomafmiclkmhaaGreatDoor
