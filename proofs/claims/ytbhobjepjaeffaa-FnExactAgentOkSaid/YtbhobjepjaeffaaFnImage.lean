/-
  STRUCTS, written by a program (genfun.py): Image: the laws' own toX, szX, eqX.
-/
import Derived.Test.YtbhobjepjaeffaaLsSymbol
set_option linter.unusedVariables false
set_option linter.unusedSimpArgs false
namespace Go.Proofs.Ytbhobjepjaeffaa
open Go.RowKit
def RetImage (x : DImage) (w : World) (r : Ending) (w' : World) : Prop := ∃ A0 c0, r = .returned (.agg #[.string x.Code, .slice A0 x.Symbols.length c0]) ∧ Fresh tImage w w' [.string x.Code, .slice A0 x.Symbols.length c0] x ∧ Gro w w'
theorem tImage_mkOd {w : World} {x : DImage} {A0 : Option Addr} {c0 : Nat} {S1 : List Nat} (h0 : x.Code.size ≤ 9223372036854775807) (h1 : (tSymbol.sl 118).O w [.slice A0 x.Symbols.length c0] x.Symbols S1) : tImage.O w [.string x.Code, .slice A0 x.Symbols.length c0] x (S1) := by
  have h : tImage.O w [.string x.Code, .slice A0 x.Symbols.length c0] x ([] ++ S1) := ⟨[.string x.Code], [.slice A0 x.Symbols.length c0], [], S1, rfl, rfl, ⟨rfl, h0, rfl⟩, h1⟩
  simpa using h
theorem tImage_fresh {w W : World} {x : DImage} {A0 : Option Addr} {c0 : Nat} {u1 : World} {m1 : Nat} (h0 : x.Code.size ≤ 9223372036854775807) (h1 : Fre (tSymbol.sl 118) u1 m1 W [.slice A0 x.Symbols.length c0] x.Symbols) (hw1 : w.heap.size ≤ u1.heap.size) : Fresh tImage w W [.string x.Code, .slice A0 x.Symbols.length c0] x := by
  obtain ⟨S1, hO1, hN1, hI1⟩ := h1
  exact ⟨_, tImage_mkOd h0 hO1, hN1, fun b hb => (by have := hI1 b hb; omega)⟩
theorem eq_DImage {x y : DImage} : x = y ↔ x.Code = y.Code ∧ x.Symbols = y.Symbols := by
  cases x
  cases y
  simp
def szImage (x : DImage) : Nat := x.Code.size + szL szSymbol x.Symbols
set_option maxRecDepth 100000 in
theorem toImage_l {x : DImage} {w : World} {A0 : Option Addr} {c0 : Nat} (h0 : x.Code.size ≤ 9223372036854775807) (h1 : (tSymbol.sl 118).R w w.heap.size [.slice A0 x.Symbols.length c0] x.Symbols) (hn : szImage x ≤ 1099511627776) : Calls Try.prog 90 #[.agg #[.string x.Code, .slice A0 x.Symbols.length c0]] w (RetImage x w) := by
  unfold szImage at hn
  go_enter Try.func90, Try.ntmps90
  go_wp2_with (first
      | (go_at_call 115; (with_reducible refine (toSymbolS_l (xs := x.Symbols) (Ty.up _ h1 (by repeat (first | with_reducible exact Gro.refl _ | with_reducible exact Gro.refl_drew _ _ _ | with_reducible exact Gro.refl_drewN _ _ _ _ | assumption | with_reducible apply Gro.more | with_reducible apply Gro.alloc | with_reducible apply Gro.drew | with_reducible apply Gro.drewN))) (by omega)).mono ?_); rintro e w1 ⟨B0, d0, rfl, hF1, os1, dd1, rfl⟩))
  refine bodyPost_ret (v := .agg #[.string x.Code, .slice B0 x.Symbols.length d0]) (by simp [results, Try.results90, go_sem]) rfl ⟨B0, d0, rfl, ?_, (by repeat (first | with_reducible exact Gro.refl _ | with_reducible exact Gro.refl_drew _ _ _ | with_reducible exact Gro.refl_drewN _ _ _ _ | assumption | with_reducible apply Gro.more | with_reducible apply Gro.alloc | with_reducible apply Gro.drew | with_reducible apply Gro.drewN))⟩
  obtain ⟨S1, hO1, hN1, hL1⟩ := hF1
  have hU1 := Ty.ltO _ hO1
  have hL1' := hL1
  simp at hL1' hU1
  exact ⟨_, tImage_mkOd h0 (Ty.same _ hO1 hL1 (by repeat (first | with_reducible exact Same.refl _ _ _ | ((with_reducible refine Same.base ?_ ?_) <;> (simp <;> omega)) | ((with_reducible refine Same.more ?_ ?_ _ _); rotate_left; simp <;> omega) | ((with_reducible refine Same.alloc ?_ ?_ _); rotate_left; simp <;> omega) | with_reducible apply Same.drew | with_reducible apply Same.drewN))), hN1, fun b hb => (by have := hL1' b hb; omega)⟩
set_option maxRecDepth 100000 in
theorem szImage_l {x : DImage} {w : World} {left : Int} {A0 : Option Addr} {c0 : Nat} (h0 : x.Code.size ≤ 9223372036854775807) (h1 : (tSymbol.sl 118).R w w.heap.size [.slice A0 x.Symbols.length c0] x.Symbols) (h00 : 0 ≤ left) (h01 : left ≤ 1099511627776) : Calls Try.prog 88 #[.agg #[.string x.Code, .slice A0 x.Symbols.length c0], .int .i64 left] w fun e w' => e = .returned (.int .i64 (szRes left (szImage x))) ∧ Gro w w' := by
  obtain ⟨n0, hn0⟩ : ∃ n, x.Code.size = n := ⟨_, rfl⟩
  obtain ⟨n1, hn1⟩ : ∃ n, szL szSymbol x.Symbols = n := ⟨_, rfl⟩
  have HS := Lib.hid (show szImage x = n0 + n1 from by unfold szImage; rw [hn0, hn1])
  have HN0 := Lib.hid hn0
  clear hn0
  have HN1 := Lib.hid hn1
  clear hn1
  by_cases c0' : (n0 : Int) ≤ left
  · skip
    by_cases c1' : (n0 : Int) + (n1 : Int) ≤ left
    · skip
      have hx0 : x.Code.size = n0 := HN0.out
      have e1 : szRes (left - (n0 : Nat)) n1 = left - (n0 : Nat) - (n1 : Nat) := if_pos (by omega)
      go_enter Try.func88, Try.ntmps88
      go_wp2_with (first
      | (go_at_call 114; (with_reducible refine (szSymbolS_l (xs := x.Symbols) (Ty.up _ h1 (by repeat (first | with_reducible exact Gro.refl _ | with_reducible exact Gro.refl_drew _ _ _ | with_reducible exact Gro.refl_drewN _ _ _ _ | assumption | with_reducible apply Gro.more | with_reducible apply Gro.alloc | with_reducible apply Gro.drew | with_reducible apply Gro.drewN))) (by omega) (by omega)).mono ?_); rintro e w1 ⟨rfl, os1, d1, rfl⟩; rw [HN1.out]))
      go_ret
      exact ⟨ret_int (by rw [HS.out]; unfold szRes; rw [if_pos (by omega)] <;> omega), (by repeat (first | with_reducible exact Gro.refl _ | with_reducible exact Gro.refl_drew _ _ _ | with_reducible exact Gro.refl_drewN _ _ _ _ | assumption | with_reducible apply Gro.more | with_reducible apply Gro.alloc | with_reducible apply Gro.drew | with_reducible apply Gro.drewN))⟩
    · have hx0 : x.Code.size = n0 := HN0.out
      have e1 : szRes (left - (n0 : Nat)) n1 = -1 := if_neg (by omega)
      go_enter Try.func88, Try.ntmps88
      go_wp2_with (first
      | (go_at_call 114; (with_reducible refine (szSymbolS_l (xs := x.Symbols) (Ty.up _ h1 (by repeat (first | with_reducible exact Gro.refl _ | with_reducible exact Gro.refl_drew _ _ _ | with_reducible exact Gro.refl_drewN _ _ _ _ | assumption | with_reducible apply Gro.more | with_reducible apply Gro.alloc | with_reducible apply Gro.drew | with_reducible apply Gro.drewN))) (by omega) (by omega)).mono ?_); rintro e w1 ⟨rfl, os1, d1, rfl⟩; rw [HN1.out]))
      go_ret
      exact ⟨ret_int (by rw [HS.out]; unfold szRes; rw [if_neg (by omega)]), (by repeat (first | with_reducible exact Gro.refl _ | with_reducible exact Gro.refl_drew _ _ _ | with_reducible exact Gro.refl_drewN _ _ _ _ | assumption | with_reducible apply Gro.more | with_reducible apply Gro.alloc | with_reducible apply Gro.drew | with_reducible apply Gro.drewN))⟩
  · have hx0 : x.Code.size = n0 := HN0.out
    go_enter Try.func88, Try.ntmps88
    go_wp2
    go_ret
    exact ⟨ret_int (by rw [HS.out]; unfold szRes; rw [if_neg (by omega)]), (by repeat (first | with_reducible exact Gro.refl _ | with_reducible exact Gro.refl_drew _ _ _ | with_reducible exact Gro.refl_drewN _ _ _ _ | assumption | with_reducible apply Gro.more | with_reducible apply Gro.alloc | with_reducible apply Gro.drew | with_reducible apply Gro.drewN))⟩
set_option maxRecDepth 100000 in
theorem eqImage_l {x y : DImage} {w : World} {A0 : Option Addr} {c0 : Nat} {B0 : Option Addr} {d0 : Nat} (h1 : (tSymbol.sl 118).R w w.heap.size [.slice A0 x.Symbols.length c0] x.Symbols) (k1 : (tSymbol.sl 118).R w w.heap.size [.slice B0 y.Symbols.length d0] y.Symbols) : Calls Try.prog 91 #[.agg #[.string x.Code, .slice A0 x.Symbols.length c0], .agg #[.string y.Code, .slice B0 y.Symbols.length d0]] w fun e w' => e = .returned (.bool (decide (x = y))) ∧ Gro w w' := by
  go_enter Try.func91, Try.ntmps91
  go_wp2_with (first
      | (go_at_call 116; (with_reducible refine (eqSymbolS_l (xs := x.Symbols) (ys := y.Symbols) (Ty.up _ h1 (by repeat (first | with_reducible exact Gro.refl _ | with_reducible exact Gro.refl_drew _ _ _ | with_reducible exact Gro.refl_drewN _ _ _ _ | assumption | with_reducible apply Gro.more | with_reducible apply Gro.alloc | with_reducible apply Gro.drew | with_reducible apply Gro.drewN))) (Ty.up _ k1 (by repeat (first | with_reducible exact Gro.refl _ | with_reducible exact Gro.refl_drew _ _ _ | with_reducible exact Gro.refl_drewN _ _ _ _ | assumption | with_reducible apply Gro.more | with_reducible apply Gro.alloc | with_reducible apply Gro.drew | with_reducible apply Gro.drewN)))).mono ?_); rintro e w1 ⟨rfl, os1, d1, rfl⟩))
  all_goals
    go_ret
    refine ⟨ret_bool ?_, (by repeat (first | with_reducible exact Gro.refl _ | with_reducible exact Gro.refl_drew _ _ _ | with_reducible exact Gro.refl_drewN _ _ _ _ | assumption | with_reducible apply Gro.more | with_reducible apply Gro.alloc | with_reducible apply Gro.drew | with_reducible apply Gro.drewN))⟩
    simp_all [eq_DImage, toList_inj']
def cntImage (x : DImage) : Nat := cntSymbolS x.Symbols
def mkImage (x : DImage) (k : Int) : DImage := { x with Symbols := mkSymbolS x.Symbols k }
end Go.Proofs.Ytbhobjepjaeffaa
