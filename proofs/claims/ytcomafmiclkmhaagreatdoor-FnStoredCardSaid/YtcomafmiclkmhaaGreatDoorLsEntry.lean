/-
  LISTS OF STRUCTS, written by a program (genlist.py): Entry, Delta: the laws' own toXS, szXS, eqXS, markXS, heldXS.
-/
import Derived.Test.YtcomafmiclkmhaaGreatDoorRowsPut
import Derived.Test.YtcomafmiclkmhaaGreatDoorAppend
import Derived.Test.YtcomafmiclkmhaaGreatDoorFnEntry
import Derived.Deep.RegionHeld3
set_option linter.unusedVariables false
set_option linter.unusedSimpArgs false
namespace Go.Proofs.YtcomafmiclkmhaaGreatDoor
open Go.RowKit
theorem atEntry {e : TypeId} {w : World} {B : Nat} {A : Option Addr} {n c : Nat} {xs : List DEntry} (h : (tEntry.sl e).R w B [.slice A n c] xs) {k : Nat} (hk : k < xs.length) :
    ∃ g off x , A = some ⟨g, off, none⟩ ∧ g < B ∧ xs[k]? = some x ∧ w.cell? ⟨g, off + k * 2, none⟩ = some (.string x.Stack) ∧ w.cell? ⟨g, off + k * 2 + 1, none⟩ = some (.int .i64 x.Count) ∧ x.Stack.size ≤ 9223372036854775807 ∧ I64 x.Count := by
  obtain ⟨g, off, x, ec, h1, hB, h2, h3, h4⟩ := elem_at h hk
  obtain ⟨rfl, hf⟩ := tEntry_R h3
  exact ⟨g, off, x, h1, hB, h2, h4 0 _ rfl, h4 1 _ rfl, hf⟩
def mkEEntry (_ : DEntry) (k : Int) : DEntry := ⟨markTx k, k + 1⟩
def mkEntryS (xs : List DEntry) (k : Int) : List DEntry := mkL mkEEntry (fun _ => 2) xs k
def cntEntryS (xs : List DEntry) : Nat := xs.length * 2
theorem mkEntryS_length (xs : List DEntry) (k : Int) : (mkEntryS xs k).length = xs.length := mkL_length _ _
theorem toEntryS_info : (Tryz.prog.info? 62).map (fun i => (i.zero, i.size, i.bytes)) = some (some (.agg #[.string ⟨#[]⟩, .int .i64 0]), 2, 24) := by kernel_rfl
theorem flatEntry : Flat tEntry := flat_via _ (flat_prod flat_str flat_int)
theorem elEntry : Elem Tryz.prog 56 62 tEntry 24 := by
  obtain ⟨i0, hi, hz0, hz1, hz2⟩ := info_parts toEntryS_info
  exact ⟨Tryz.underlying56, ⟨i0, _, hi, hz0, hz1, hz2, rfl⟩, by decide⟩
theorem atDelta {e : TypeId} {w : World} {B : Nat} {A : Option Addr} {n c : Nat} {xs : List DDelta} (h : (tDelta.sl e).R w B [.slice A n c] xs) {k : Nat} (hk : k < xs.length) :
    ∃ g off x , A = some ⟨g, off, none⟩ ∧ g < B ∧ xs[k]? = some x ∧ w.cell? ⟨g, off + k * 3, none⟩ = some (.string x.Stack) ∧ w.cell? ⟨g, off + k * 3 + 1, none⟩ = some (.int .i64 x.Before) ∧ w.cell? ⟨g, off + k * 3 + 2, none⟩ = some (.int .i64 x.After) ∧ x.Stack.size ≤ 9223372036854775807 ∧ I64 x.Before ∧ I64 x.After := by
  obtain ⟨g, off, x, ec, h1, hB, h2, h3, h4⟩ := elem_at h hk
  obtain ⟨rfl, hf⟩ := tDelta_R h3
  exact ⟨g, off, x, h1, hB, h2, h4 0 _ rfl, h4 1 _ rfl, h4 2 _ rfl, hf⟩
def mkEDelta (_ : DDelta) (k : Int) : DDelta := ⟨markTx k, k + 1, k + 1 + 1⟩
def mkDeltaS (xs : List DDelta) (k : Int) : List DDelta := mkL mkEDelta (fun _ => 3) xs k
def cntDeltaS (xs : List DDelta) : Nat := xs.length * 3
theorem mkDeltaS_length (xs : List DDelta) (k : Int) : (mkDeltaS xs k).length = xs.length := mkL_length _ _
theorem flatDelta : Flat tDelta := flat_via _ (flat_prod flat_str (flat_prod flat_int flat_int))
end Go.Proofs.YtcomafmiclkmhaaGreatDoor
