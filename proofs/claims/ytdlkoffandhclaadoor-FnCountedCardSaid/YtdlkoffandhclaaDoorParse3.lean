/-
  PARSE, PART 3: ParseFrames of the program; strings.Split and strings.Cut at one byte.
-/
import Derived.Test.YtdlkoffandhclaaDoorParse2
import Derived.Test.YtdlkoffandhclaaDoorShelf
set_option linter.unusedVariables false
set_option linter.unusedSimpArgs false
namespace Go.Proofs.YtdlkoffandhclaaDoor
open Go.RowKit
theorem rows_of_strs {w : World} : ∀ {xs : List ByteArray}, (∀ x ∈ xs, x.size ≤ 9223372036854775807) → Rows strT w (xs.map Value.string) xs []
  | [], _ => ⟨rfl, rfl⟩
  | x :: xs, h => ⟨[.string x], xs.map Value.string, [], [], rfl, rfl, ⟨rfl, h x List.mem_cons_self, rfl⟩, rows_of_strs (fun y hy => h y (List.mem_cons_of_mem _ hy))⟩
theorem Gro.cell {a b : World} (h : Gro a b) {p : Addr} {v : Value} (hp : a.cell? p = some v) : b.cell? p = some v := by
  obtain ⟨os, d, rfl⟩ := h
  exact gro_keeps hp os d
end Go.Proofs.YtdlkoffandhclaaDoor
