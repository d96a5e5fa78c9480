/-
  STRUCTS, written by a program (genfun.py): Rule: the laws' own toX, szX, eqX.
-/
import Derived.Test.YtbhobjepjaeffaaTyAg
import Derived.Test.YtbhobjepjaeffaaLists
import Derived.Test.YtbhobjepjaeffaaRowsPut
set_option linter.unusedVariables false
set_option linter.unusedSimpArgs false
namespace Go.Proofs.Ytbhobjepjaeffaa
open Go.RowKit
def RetRule (x : DRule) (w : World) (r : Ending) (w' : World) : Prop := r = .returned (.agg #[.int .i64 x.Start, .int .i64 x.End, .bool x.Frame, .int .i64 x.Depth]) ∧ Fresh tRule w w' [.int .i64 x.Start, .int .i64 x.End, .bool x.Frame, .int .i64 x.Depth] x ∧ Gro w w'
theorem tRule_mkOd {w : World} {x : DRule} (h0 : I64 x.Start) (h1 : I64 x.End) (h3 : I64 x.Depth) : tRule.O w [.int .i64 x.Start, .int .i64 x.End, .bool x.Frame, .int .i64 x.Depth] x ([]) := by
  have h : tRule.O w [.int .i64 x.Start, .int .i64 x.End, .bool x.Frame, .int .i64 x.Depth] x ([] ++ ([] ++ ([] ++ []))) := ⟨[.int .i64 x.Start], [.int .i64 x.End, .bool x.Frame, .int .i64 x.Depth], [], ([] ++ ([] ++ [])), rfl, rfl, ⟨rfl, h0.1, h0.2, rfl⟩, ⟨[.int .i64 x.End], [.bool x.Frame, .int .i64 x.Depth], [], ([] ++ []), rfl, rfl, ⟨rfl, h1.1, h1.2, rfl⟩, ⟨[.bool x.Frame], [.int .i64 x.Depth], [], [], rfl, rfl, ⟨rfl, rfl⟩, ⟨rfl, h3.1, h3.2, rfl⟩⟩⟩⟩
  simpa using h
theorem tRule_fresh {w W : World} {x : DRule} (h0 : I64 x.Start) (h1 : I64 x.End) (h3 : I64 x.Depth) : Fresh tRule w W [.int .i64 x.Start, .int .i64 x.End, .bool x.Frame, .int .i64 x.Depth] x := by
  exact ⟨_, tRule_mkOd h0 h1 h3, List.nodup_nil, fun b hb => absurd hb (List.not_mem_nil)⟩
theorem eq_DRule {x y : DRule} : x = y ↔ x.Start = y.Start ∧ x.End = y.End ∧ x.Frame = y.Frame ∧ x.Depth = y.Depth := by
  cases x
  cases y
  simp
set_option maxRecDepth 100000 in
theorem toRule_l {x : DRule} {w : World} (h0 : I64 x.Start) (h1 : I64 x.End) (h2 : I64 x.Depth) : Calls Try.prog 139 #[.agg #[.int .i64 x.Start, .int .i64 x.End, .bool x.Frame, .int .i64 x.Depth]] w (RetRule x w) := by
  go_enter Try.func139, Try.ntmps139
  go_wp2
  refine bodyPost_ret (v := .agg #[.int .i64 x.Start, .int .i64 x.End, .bool x.Frame, .int .i64 x.Depth]) (by simp [results, Try.results139, go_sem]) rfl ⟨rfl, ?_, (by repeat (first | with_reducible exact Gro.refl _ | with_reducible exact Gro.refl_drew _ _ _ | with_reducible exact Gro.refl_drewN _ _ _ _ | assumption | with_reducible apply Gro.more | with_reducible apply Gro.alloc | with_reducible apply Gro.drew | with_reducible apply Gro.drewN))⟩
  exact ⟨_, tRule_mkOd h0 h1 h2, List.nodup_nil, fun b hb => absurd hb (List.not_mem_nil)⟩
set_option maxRecDepth 100000 in
theorem eqRule_l {x y : DRule} {w : World}  : Calls Try.prog 142 #[.agg #[.int .i64 x.Start, .int .i64 x.End, .bool x.Frame, .int .i64 x.Depth], .agg #[.int .i64 y.Start, .int .i64 y.End, .bool y.Frame, .int .i64 y.Depth]] w fun e w' => e = .returned (.bool (decide (x = y))) ∧ Gro w w' := by
  go_enter Try.func142, Try.ntmps142
  go_wp2
  all_goals
    go_ret
    refine ⟨ret_bool ?_, (by repeat (first | with_reducible exact Gro.refl _ | with_reducible exact Gro.refl_drew _ _ _ | with_reducible exact Gro.refl_drewN _ _ _ _ | assumption | with_reducible apply Gro.more | with_reducible apply Gro.alloc | with_reducible apply Gro.drew | with_reducible apply Gro.drewN))⟩
    simp_all [eq_DRule]
end Go.Proofs.Ytbhobjepjaeffaa
