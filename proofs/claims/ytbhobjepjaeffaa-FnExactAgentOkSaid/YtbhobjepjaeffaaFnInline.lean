/-
  STRUCTS, written by a program (genfun.py): Inline: the laws' own toX, szX, eqX.
-/
import Derived.Test.YtbhobjepjaeffaaTyAg
import Derived.Test.YtbhobjepjaeffaaLists
import Derived.Test.YtbhobjepjaeffaaRowsPut
set_option linter.unusedVariables false
set_option linter.unusedSimpArgs false
namespace Go.Proofs.Ytbhobjepjaeffaa
open Go.RowKit
def RetInline (x : DInline) (w : World) (r : Ending) (w' : World) : Prop := r = .returned (.agg #[.int .i64 x.Start, .int .i64 x.End, .int .i64 x.Level, .int .i64 x.Line, .string x.Name]) ∧ Fresh tInline w w' [.int .i64 x.Start, .int .i64 x.End, .int .i64 x.Level, .int .i64 x.Line, .string x.Name] x ∧ Gro w w'
theorem tInline_mkOd {w : World} {x : DInline} (h0 : I64 x.Start) (h1 : I64 x.End) (h2 : I64 x.Level) (h3 : I64 x.Line) (h4 : x.Name.size ≤ 9223372036854775807) : tInline.O w [.int .i64 x.Start, .int .i64 x.End, .int .i64 x.Level, .int .i64 x.Line, .string x.Name] x ([]) := by
  have h : tInline.O w [.int .i64 x.Start, .int .i64 x.End, .int .i64 x.Level, .int .i64 x.Line, .string x.Name] x ([] ++ ([] ++ ([] ++ ([] ++ [])))) := ⟨[.int .i64 x.Start], [.int .i64 x.End, .int .i64 x.Level, .int .i64 x.Line, .string x.Name], [], ([] ++ ([] ++ ([] ++ []))), rfl, rfl, ⟨rfl, h0.1, h0.2, rfl⟩, ⟨[.int .i64 x.End], [.int .i64 x.Level, .int .i64 x.Line, .string x.Name], [], ([] ++ ([] ++ [])), rfl, rfl, ⟨rfl, h1.1, h1.2, rfl⟩, ⟨[.int .i64 x.Level], [.int .i64 x.Line, .string x.Name], [], ([] ++ []), rfl, rfl, ⟨rfl, h2.1, h2.2, rfl⟩, ⟨[.int .i64 x.Line], [.string x.Name], [], [], rfl, rfl, ⟨rfl, h3.1, h3.2, rfl⟩, ⟨rfl, h4, rfl⟩⟩⟩⟩⟩
  simpa using h
theorem tInline_fresh {w W : World} {x : DInline} (h0 : I64 x.Start) (h1 : I64 x.End) (h2 : I64 x.Level) (h3 : I64 x.Line) (h4 : x.Name.size ≤ 9223372036854775807) : Fresh tInline w W [.int .i64 x.Start, .int .i64 x.End, .int .i64 x.Level, .int .i64 x.Line, .string x.Name] x := by
  exact ⟨_, tInline_mkOd h0 h1 h2 h3 h4, List.nodup_nil, fun b hb => absurd hb (List.not_mem_nil)⟩
theorem eq_DInline {x y : DInline} : x = y ↔ x.Start = y.Start ∧ x.End = y.End ∧ x.Level = y.Level ∧ x.Line = y.Line ∧ x.Name = y.Name := by
  cases x
  cases y
  simp
def szInline (x : DInline) : Nat := x.Name.size
set_option maxRecDepth 100000 in
theorem toInline_l {x : DInline} {w : World} (h0 : I64 x.Start) (h1 : I64 x.End) (h2 : I64 x.Level) (h3 : I64 x.Line) (h4 : x.Name.size ≤ 9223372036854775807) (hn : szInline x ≤ 1099511627776) : Calls Try.prog 141 #[.agg #[.int .i64 x.Start, .int .i64 x.End, .int .i64 x.Level, .int .i64 x.Line, .string x.Name]] w (RetInline x w) := by
  unfold szInline at hn
  go_enter Try.func141, Try.ntmps141
  go_wp2
  refine bodyPost_ret (v := .agg #[.int .i64 x.Start, .int .i64 x.End, .int .i64 x.Level, .int .i64 x.Line, .string x.Name]) (by simp [results, Try.results141, go_sem]) rfl ⟨rfl, ?_, (by repeat (first | with_reducible exact Gro.refl _ | with_reducible exact Gro.refl_drew _ _ _ | with_reducible exact Gro.refl_drewN _ _ _ _ | assumption | with_reducible apply Gro.more | with_reducible apply Gro.alloc | with_reducible apply Gro.drew | with_reducible apply Gro.drewN))⟩
  exact ⟨_, tInline_mkOd h0 h1 h2 h3 h4, List.nodup_nil, fun b hb => absurd hb (List.not_mem_nil)⟩
set_option maxRecDepth 100000 in
theorem szInline_l {x : DInline} {w : World} {left : Int} (h4 : x.Name.size ≤ 9223372036854775807) (h00 : 0 ≤ left) (h01 : left ≤ 1099511627776) : Calls Try.prog 138 #[.agg #[.int .i64 x.Start, .int .i64 x.End, .int .i64 x.Level, .int .i64 x.Line, .string x.Name], .int .i64 left] w fun e w' => e = .returned (.int .i64 (szRes left (szInline x))) ∧ Gro w w' := by
  obtain ⟨n0, hn0⟩ : ∃ n, x.Name.size = n := ⟨_, rfl⟩
  have HS := Lib.hid (show szInline x = n0 from by unfold szInline; rw [hn0])
  have HN0 := Lib.hid hn0
  clear hn0
  by_cases c0' : (n0 : Int) ≤ left
  · skip
    have hx0 : x.Name.size = n0 := HN0.out
    go_enter Try.func138, Try.ntmps138
    go_wp2
    go_ret
    exact ⟨ret_int (by rw [HS.out]; unfold szRes; rw [if_pos (by omega)] <;> omega), (by repeat (first | with_reducible exact Gro.refl _ | with_reducible exact Gro.refl_drew _ _ _ | with_reducible exact Gro.refl_drewN _ _ _ _ | assumption | with_reducible apply Gro.more | with_reducible apply Gro.alloc | with_reducible apply Gro.drew | with_reducible apply Gro.drewN))⟩
  · have hx0 : x.Name.size = n0 := HN0.out
    go_enter Try.func138, Try.ntmps138
    go_wp2
    go_ret
    exact ⟨ret_int (by rw [HS.out]; unfold szRes; rw [if_neg (by omega)]), (by repeat (first | with_reducible exact Gro.refl _ | with_reducible exact Gro.refl_drew _ _ _ | with_reducible exact Gro.refl_drewN _ _ _ _ | assumption | with_reducible apply Gro.more | with_reducible apply Gro.alloc | with_reducible apply Gro.drew | with_reducible apply Gro.drewN))⟩
set_option maxRecDepth 100000 in
theorem eqInline_l {x y : DInline} {w : World}  : Calls Try.prog 144 #[.agg #[.int .i64 x.Start, .int .i64 x.End, .int .i64 x.Level, .int .i64 x.Line, .string x.Name], .agg #[.int .i64 y.Start, .int .i64 y.End, .int .i64 y.Level, .int .i64 y.Line, .string y.Name]] w fun e w' => e = .returned (.bool (decide (x = y))) ∧ Gro w w' := by
  go_enter Try.func144, Try.ntmps144
  go_wp2
  all_goals
    go_ret
    refine ⟨ret_bool ?_, (by repeat (first | with_reducible exact Gro.refl _ | with_reducible exact Gro.refl_drew _ _ _ | with_reducible exact Gro.refl_drewN _ _ _ _ | assumption | with_reducible apply Gro.more | with_reducible apply Gro.alloc | with_reducible apply Gro.drew | with_reducible apply Gro.drewN))⟩
    simp_all [eq_DInline, toList_inj']
end Go.Proofs.Ytbhobjepjaeffaa
