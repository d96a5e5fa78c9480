/-
  STRUCTS, written by a program (genfun.py): Row: the laws' own toX, szX, eqX.
-/
import Derived.Test.YtbhobjepjaeffaaTyAg
import Derived.Test.YtbhobjepjaeffaaLists
import Derived.Test.YtbhobjepjaeffaaRowsPut
set_option linter.unusedVariables false
set_option linter.unusedSimpArgs false
namespace Go.Proofs.Ytbhobjepjaeffaa
open Go.RowKit
def RetRow (x : DRow) (w : World) (r : Ending) (w' : World) : Prop := r = .returned (.agg #[.int .i64 x.Offset, .int .i64 x.Line, .bool x.Start]) ∧ Fresh tRow w w' [.int .i64 x.Offset, .int .i64 x.Line, .bool x.Start] x ∧ Gro w w'
theorem tRow_mkOd {w : World} {x : DRow} (h0 : I64 x.Offset) (h1 : I64 x.Line) : tRow.O w [.int .i64 x.Offset, .int .i64 x.Line, .bool x.Start] x ([]) := by
  have h : tRow.O w [.int .i64 x.Offset, .int .i64 x.Line, .bool x.Start] x ([] ++ ([] ++ [])) := ⟨[.int .i64 x.Offset], [.int .i64 x.Line, .bool x.Start], [], ([] ++ []), rfl, rfl, ⟨rfl, h0.1, h0.2, rfl⟩, ⟨[.int .i64 x.Line], [.bool x.Start], [], [], rfl, rfl, ⟨rfl, h1.1, h1.2, rfl⟩, ⟨rfl, rfl⟩⟩⟩
  simpa using h
theorem tRow_fresh {w W : World} {x : DRow} (h0 : I64 x.Offset) (h1 : I64 x.Line) : Fresh tRow w W [.int .i64 x.Offset, .int .i64 x.Line, .bool x.Start] x := by
  exact ⟨_, tRow_mkOd h0 h1, List.nodup_nil, fun b hb => absurd hb (List.not_mem_nil)⟩
theorem eq_DRow {x y : DRow} : x = y ↔ x.Offset = y.Offset ∧ x.Line = y.Line ∧ x.Start = y.Start := by
  cases x
  cases y
  simp
set_option maxRecDepth 100000 in
theorem toRow_l {x : DRow} {w : World} (h0 : I64 x.Offset) (h1 : I64 x.Line) : Calls Try.prog 140 #[.agg #[.int .i64 x.Offset, .int .i64 x.Line, .bool x.Start]] w (RetRow x w) := by
  go_enter Try.func140, Try.ntmps140
  go_wp2
  refine bodyPost_ret (v := .agg #[.int .i64 x.Offset, .int .i64 x.Line, .bool x.Start]) (by simp [results, Try.results140, go_sem]) rfl ⟨rfl, ?_, (by repeat (first | with_reducible exact Gro.refl _ | with_reducible exact Gro.refl_drew _ _ _ | with_reducible exact Gro.refl_drewN _ _ _ _ | assumption | with_reducible apply Gro.more | with_reducible apply Gro.alloc | with_reducible apply Gro.drew | with_reducible apply Gro.drewN))⟩
  exact ⟨_, tRow_mkOd h0 h1, List.nodup_nil, fun b hb => absurd hb (List.not_mem_nil)⟩
set_option maxRecDepth 100000 in
theorem eqRow_l {x y : DRow} {w : World}  : Calls Try.prog 143 #[.agg #[.int .i64 x.Offset, .int .i64 x.Line, .bool x.Start], .agg #[.int .i64 y.Offset, .int .i64 y.Line, .bool y.Start]] w fun e w' => e = .returned (.bool (decide (x = y))) ∧ Gro w w' := by
  go_enter Try.func143, Try.ntmps143
  go_wp2
  all_goals
    go_ret
    refine ⟨ret_bool ?_, (by repeat (first | with_reducible exact Gro.refl _ | with_reducible exact Gro.refl_drew _ _ _ | with_reducible exact Gro.refl_drewN _ _ _ _ | assumption | with_reducible apply Gro.more | with_reducible apply Gro.alloc | with_reducible apply Gro.drew | with_reducible apply Gro.drewN))⟩
    simp_all [eq_DRow]
end Go.Proofs.Ytbhobjepjaeffaa
