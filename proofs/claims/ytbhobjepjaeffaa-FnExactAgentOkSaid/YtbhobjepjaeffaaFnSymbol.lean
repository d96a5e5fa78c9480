/-
  STRUCTS, written by a program (genfun.py): Symbol: the laws' own toX, szX, eqX.
-/
import Derived.Test.YtbhobjepjaeffaaTyProc
import Derived.Test.YtbhobjepjaeffaaLists
import Derived.Test.YtbhobjepjaeffaaRowsPut
set_option linter.unusedVariables false
set_option linter.unusedSimpArgs false
namespace Go.Proofs.Ytbhobjepjaeffaa
open Go.RowKit
def RetSymbol (x : DSymbol) (w : World) (r : Ending) (w' : World) : Prop := r = .returned (.agg #[.string x.Name, .int .i64 x.Start, .int .i64 x.Size]) ∧ Fresh tSymbol w w' [.string x.Name, .int .i64 x.Start, .int .i64 x.Size] x ∧ Gro w w'
theorem tSymbol_mkOd {w : World} {x : DSymbol} (h0 : x.Name.size ≤ 9223372036854775807) (h1 : I64 x.Start) (h2 : I64 x.Size) : tSymbol.O w [.string x.Name, .int .i64 x.Start, .int .i64 x.Size] x ([]) := by
  have h : tSymbol.O w [.string x.Name, .int .i64 x.Start, .int .i64 x.Size] x ([] ++ ([] ++ [])) := ⟨[.string x.Name], [.int .i64 x.Start, .int .i64 x.Size], [], ([] ++ []), rfl, rfl, ⟨rfl, h0, rfl⟩, ⟨[.int .i64 x.Start], [.int .i64 x.Size], [], [], rfl, rfl, ⟨rfl, h1.1, h1.2, rfl⟩, ⟨rfl, h2.1, h2.2, rfl⟩⟩⟩
  simpa using h
theorem tSymbol_fresh {w W : World} {x : DSymbol} (h0 : x.Name.size ≤ 9223372036854775807) (h1 : I64 x.Start) (h2 : I64 x.Size) : Fresh tSymbol w W [.string x.Name, .int .i64 x.Start, .int .i64 x.Size] x := by
  exact ⟨_, tSymbol_mkOd h0 h1 h2, List.nodup_nil, fun b hb => absurd hb (List.not_mem_nil)⟩
theorem eq_DSymbol {x y : DSymbol} : x = y ↔ x.Name = y.Name ∧ x.Start = y.Start ∧ x.Size = y.Size := by
  cases x
  cases y
  simp
def szSymbol (x : DSymbol) : Nat := x.Name.size
set_option maxRecDepth 100000 in
theorem toSymbol_l {x : DSymbol} {w : World} (h0 : x.Name.size ≤ 9223372036854775807) (h1 : I64 x.Start) (h2 : I64 x.Size) (hn : szSymbol x ≤ 1099511627776) : Calls Try.prog 136 #[.agg #[.string x.Name, .int .i64 x.Start, .int .i64 x.Size]] w (RetSymbol x w) := by
  unfold szSymbol at hn
  go_enter Try.func136, Try.ntmps136
  go_wp2
  refine bodyPost_ret (v := .agg #[.string x.Name, .int .i64 x.Start, .int .i64 x.Size]) (by simp [results, Try.results136, go_sem]) rfl ⟨rfl, ?_, (by repeat (first | with_reducible exact Gro.refl _ | with_reducible exact Gro.refl_drew _ _ _ | with_reducible exact Gro.refl_drewN _ _ _ _ | assumption | with_reducible apply Gro.more | with_reducible apply Gro.alloc | with_reducible apply Gro.drew | with_reducible apply Gro.drewN))⟩
  exact ⟨_, tSymbol_mkOd h0 h1 h2, List.nodup_nil, fun b hb => absurd hb (List.not_mem_nil)⟩
set_option maxRecDepth 100000 in
theorem szSymbol_l {x : DSymbol} {w : World} {left : Int} (h0 : x.Name.size ≤ 9223372036854775807) (h00 : 0 ≤ left) (h01 : left ≤ 1099511627776) : Calls Try.prog 135 #[.agg #[.string x.Name, .int .i64 x.Start, .int .i64 x.Size], .int .i64 left] w fun e w' => e = .returned (.int .i64 (szRes left (szSymbol x))) ∧ Gro w w' := by
  obtain ⟨n0, hn0⟩ : ∃ n, x.Name.size = n := ⟨_, rfl⟩
  have HS := Lib.hid (show szSymbol x = n0 from by unfold szSymbol; rw [hn0])
  have HN0 := Lib.hid hn0
  clear hn0
  by_cases c0' : (n0 : Int) ≤ left
  · skip
    have hx0 : x.Name.size = n0 := HN0.out
    go_enter Try.func135, Try.ntmps135
    go_wp2
    go_ret
    exact ⟨ret_int (by rw [HS.out]; unfold szRes; rw [if_pos (by omega)] <;> omega), (by repeat (first | with_reducible exact Gro.refl _ | with_reducible exact Gro.refl_drew _ _ _ | with_reducible exact Gro.refl_drewN _ _ _ _ | assumption | with_reducible apply Gro.more | with_reducible apply Gro.alloc | with_reducible apply Gro.drew | with_reducible apply Gro.drewN))⟩
  · have hx0 : x.Name.size = n0 := HN0.out
    go_enter Try.func135, Try.ntmps135
    go_wp2
    go_ret
    exact ⟨ret_int (by rw [HS.out]; unfold szRes; rw [if_neg (by omega)]), (by repeat (first | with_reducible exact Gro.refl _ | with_reducible exact Gro.refl_drew _ _ _ | with_reducible exact Gro.refl_drewN _ _ _ _ | assumption | with_reducible apply Gro.more | with_reducible apply Gro.alloc | with_reducible apply Gro.drew | with_reducible apply Gro.drewN))⟩
set_option maxRecDepth 100000 in
theorem eqSymbol_l {x y : DSymbol} {w : World}  : Calls Try.prog 137 #[.agg #[.string x.Name, .int .i64 x.Start, .int .i64 x.Size], .agg #[.string y.Name, .int .i64 y.Start, .int .i64 y.Size]] w fun e w' => e = .returned (.bool (decide (x = y))) ∧ Gro w w' := by
  go_enter Try.func137, Try.ntmps137
  go_wp2
  all_goals
    go_ret
    refine ⟨ret_bool ?_, (by repeat (first | with_reducible exact Gro.refl _ | with_reducible exact Gro.refl_drew _ _ _ | with_reducible exact Gro.refl_drewN _ _ _ _ | assumption | with_reducible apply Gro.more | with_reducible apply Gro.alloc | with_reducible apply Gro.drew | with_reducible apply Gro.drewN))⟩
    simp_all [eq_DSymbol, toList_inj']
end Go.Proofs.Ytbhobjepjaeffaa
