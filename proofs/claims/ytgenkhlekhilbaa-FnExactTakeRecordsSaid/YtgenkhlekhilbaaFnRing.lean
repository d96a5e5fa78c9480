/-
  STRUCTS, written by a program (genfun.py): Ring: the laws' own toX, szX, eqX.
-/
import Derived.Test.YtgenkhlekhilbaaLists
import Derived.Test.YtgenkhlekhilbaaTyRing
namespace Go.Proofs.Ytgenkhlekhilbaa
open Go.RowKit
def RetRing (x : DRing) (w : World) (r : Ending) (w' : World) : Prop := ∃ A0 c0, r = .returned (.agg #[.int .i64 x.Capacity, .slice A0 x.Records.length c0, .int .i64 x.Written, .int .i64 x.Lost]) ∧ Fresh tRing w w' [.int .i64 x.Capacity, .slice A0 x.Records.length c0, .int .i64 x.Written, .int .i64 x.Lost] x ∧ Gro w w'
theorem tRing_mkOd {w : World} {x : DRing} {A0 : Option Addr} {c0 : Nat} {S1 : List Nat} (h0 : I64 x.Capacity) (h1 : (strT.sl 9).O w [.slice A0 x.Records.length c0] x.Records S1) (h2 : I64 x.Written) (h3 : I64 x.Lost) : tRing.O w [.int .i64 x.Capacity, .slice A0 x.Records.length c0, .int .i64 x.Written, .int .i64 x.Lost] x (S1) := by
  have h : tRing.O w [.int .i64 x.Capacity, .slice A0 x.Records.length c0, .int .i64 x.Written, .int .i64 x.Lost] x ([] ++ (S1 ++ ([] ++ []))) := ⟨[.int .i64 x.Capacity], [.slice A0 x.Records.length c0, .int .i64 x.Written, .int .i64 x.Lost], [], (S1 ++ ([] ++ [])), rfl, rfl, ⟨rfl, h0.1, h0.2, rfl⟩, ⟨[.slice A0 x.Records.length c0], [.int .i64 x.Written, .int .i64 x.Lost], S1, ([] ++ []), rfl, rfl, h1, ⟨[.int .i64 x.Written], [.int .i64 x.Lost], [], [], rfl, rfl, ⟨rfl, h2.1, h2.2, rfl⟩, ⟨rfl, h3.1, h3.2, rfl⟩⟩⟩⟩
  simpa using h
theorem tRing_fresh {w W : World} {x : DRing} {A0 : Option Addr} {c0 : Nat} {u1 : World} {m1 : Nat} (h0 : I64 x.Capacity) (h1 : Fre (strT.sl 9) u1 m1 W [.slice A0 x.Records.length c0] x.Records) (h2 : I64 x.Written) (h3 : I64 x.Lost) (hw1 : w.heap.size ≤ u1.heap.size) : Fresh tRing w W [.int .i64 x.Capacity, .slice A0 x.Records.length c0, .int .i64 x.Written, .int .i64 x.Lost] x := by
  obtain ⟨S1, hO1, hN1, hI1⟩ := h1
  exact ⟨_, tRing_mkOd h0 hO1 h2 h3, hN1, fun b hb => (by have := hI1 b hb; omega)⟩
theorem eq_DRing {x y : DRing} : x = y ↔ x.Capacity = y.Capacity ∧ x.Records = y.Records ∧ x.Written = y.Written ∧ x.Lost = y.Lost := by
  cases x
  cases y
  simp
def szRing (x : DRing) : Nat := szL ByteArray.size x.Records
set_option maxRecDepth 100000 in
theorem toRing_l {x : DRing} {w : World} {A0 : Option Addr} {c0 : Nat} (h0 : I64 x.Capacity) (h1 : (strT.sl 9).R w w.heap.size [.slice A0 x.Records.length c0] x.Records) (h2 : I64 x.Written) (h3 : I64 x.Lost) (hn : szRing x ≤ 1099511627776) : Calls Try.prog 27 #[.agg #[.int .i64 x.Capacity, .slice A0 x.Records.length c0, .int .i64 x.Written, .int .i64 x.Lost]] w (RetRing x w) := by
  unfold szRing at hn
  go_enter Try.func27, Try.ntmps27
  go_wp2_with (first
      | (go_at_call 61; (with_reducible refine (toStringS_l (xs := x.Records) (Ty.up _ h1 (by repeat (first | with_reducible exact Gro.refl _ | with_reducible exact Gro.refl_drew _ _ _ | with_reducible exact Gro.refl_drewN _ _ _ _ | assumption | with_reducible apply Gro.more | with_reducible apply Gro.alloc | with_reducible apply Gro.drew | with_reducible apply Gro.drewN))) (by have := hn; unfold szL at this; omega)).mono ?_); rintro e w1 ⟨B0, d0, rfl, hF1, os1, dd1, rfl⟩))
  refine bodyPost_ret (v := .agg #[.int .i64 x.Capacity, .slice B0 x.Records.length d0, .int .i64 x.Written, .int .i64 x.Lost]) (by simp [results, Try.results27, go_sem]) rfl ⟨B0, d0, rfl, ?_, (by repeat (first | with_reducible exact Gro.refl _ | with_reducible exact Gro.refl_drew _ _ _ | with_reducible exact Gro.refl_drewN _ _ _ _ | assumption | with_reducible apply Gro.more | with_reducible apply Gro.alloc | with_reducible apply Gro.drew | with_reducible apply Gro.drewN))⟩
  obtain ⟨S1, hO1, hN1, hL1⟩ := hF1
  have hU1 := Ty.ltO _ hO1
  have hL1' := hL1
  simp at hL1' hU1
  exact ⟨_, tRing_mkOd h0 (Ty.same _ hO1 hL1 (by repeat (first | with_reducible exact Same.refl _ _ _ | ((with_reducible refine Same.base ?_ ?_) <;> (simp <;> omega)) | ((with_reducible refine Same.more ?_ ?_ _ _); rotate_left; simp <;> omega) | ((with_reducible refine Same.alloc ?_ ?_ _); rotate_left; simp <;> omega) | with_reducible apply Same.drew | with_reducible apply Same.drewN))) h2 h3, hN1, fun b hb => (by have := hL1' b hb; omega)⟩
set_option maxRecDepth 100000 in
theorem szRing_l {x : DRing} {w : World} {left : Int} {A0 : Option Addr} {c0 : Nat} (h1 : (strT.sl 9).R w w.heap.size [.slice A0 x.Records.length c0] x.Records) (h00 : 0 ≤ left) (h01 : left ≤ 1099511627776) : Calls Try.prog 25 #[.agg #[.int .i64 x.Capacity, .slice A0 x.Records.length c0, .int .i64 x.Written, .int .i64 x.Lost], .int .i64 left] w fun e w' => e = .returned (.int .i64 (szRes left (szRing x))) ∧ Gro w w' := by
  obtain ⟨n0, hn0⟩ : ∃ n, szL ByteArray.size x.Records = n := ⟨_, rfl⟩
  have HS := Lib.hid (show szRing x = n0 from by unfold szRing; rw [hn0])
  have HN0 := Lib.hid hn0
  clear hn0
  by_cases c0' : (n0 : Int) ≤ left
  · skip
    have e0 : szRes (left) n0 = left - (n0 : Nat) := if_pos (by omega)
    go_enter Try.func25, Try.ntmps25
    go_wp2_with (first
      | (go_at_call 59; (with_reducible refine (szStringS_l (xs := x.Records) (Ty.up _ h1 (by repeat (first | with_reducible exact Gro.refl _ | with_reducible exact Gro.refl_drew _ _ _ | with_reducible exact Gro.refl_drewN _ _ _ _ | assumption | with_reducible apply Gro.more | with_reducible apply Gro.alloc | with_reducible apply Gro.drew | with_reducible apply Gro.drewN))) (by omega) (by omega)).mono ?_); rintro e w0 ⟨rfl, os0, d0, rfl⟩; rw [HN0.out]))
    go_ret
    exact ⟨ret_int (by rw [HS.out]; unfold szRes; rw [if_pos (by omega)] <;> omega), (by repeat (first | with_reducible exact Gro.refl _ | with_reducible exact Gro.refl_drew _ _ _ | with_reducible exact Gro.refl_drewN _ _ _ _ | assumption | with_reducible apply Gro.more | with_reducible apply Gro.alloc | with_reducible apply Gro.drew | with_reducible apply Gro.drewN))⟩
  · have e0 : szRes (left) n0 = -1 := if_neg (by omega)
    go_enter Try.func25, Try.ntmps25
    go_wp2_with (first
      | (go_at_call 59; (with_reducible refine (szStringS_l (xs := x.Records) (Ty.up _ h1 (by repeat (first | with_reducible exact Gro.refl _ | with_reducible exact Gro.refl_drew _ _ _ | with_reducible exact Gro.refl_drewN _ _ _ _ | assumption | with_reducible apply Gro.more | with_reducible apply Gro.alloc | with_reducible apply Gro.drew | with_reducible apply Gro.drewN))) (by omega) (by omega)).mono ?_); rintro e w0 ⟨rfl, os0, d0, rfl⟩; rw [HN0.out]))
    go_ret
    exact ⟨ret_int (by rw [HS.out]; unfold szRes; rw [if_neg (by omega)]), (by repeat (first | with_reducible exact Gro.refl _ | with_reducible exact Gro.refl_drew _ _ _ | with_reducible exact Gro.refl_drewN _ _ _ _ | assumption | with_reducible apply Gro.more | with_reducible apply Gro.alloc | with_reducible apply Gro.drew | with_reducible apply Gro.drewN))⟩
set_option maxRecDepth 100000 in
theorem eqRing_l {x y : DRing} {w : World} {A0 : Option Addr} {c0 : Nat} {B0 : Option Addr} {d0 : Nat} (h1 : (strT.sl 9).R w w.heap.size [.slice A0 x.Records.length c0] x.Records) (k1 : (strT.sl 9).R w w.heap.size [.slice B0 y.Records.length d0] y.Records) : Calls Try.prog 29 #[.agg #[.int .i64 x.Capacity, .slice A0 x.Records.length c0, .int .i64 x.Written, .int .i64 x.Lost], .agg #[.int .i64 y.Capacity, .slice B0 y.Records.length d0, .int .i64 y.Written, .int .i64 y.Lost]] w fun e w' => e = .returned (.bool (decide (x = y))) ∧ Gro w w' := by
  go_enter Try.func29, Try.ntmps29
  go_wp2_with (first
      | (go_at_call 51; (with_reducible refine (eqStringS_l (xs := x.Records) (ys := y.Records) (Ty.up _ h1 (by repeat (first | with_reducible exact Gro.refl _ | with_reducible exact Gro.refl_drew _ _ _ | with_reducible exact Gro.refl_drewN _ _ _ _ | assumption | with_reducible apply Gro.more | with_reducible apply Gro.alloc | with_reducible apply Gro.drew | with_reducible apply Gro.drewN))) (Ty.up _ k1 (by repeat (first | with_reducible exact Gro.refl _ | with_reducible exact Gro.refl_drew _ _ _ | with_reducible exact Gro.refl_drewN _ _ _ _ | assumption | with_reducible apply Gro.more | with_reducible apply Gro.alloc | with_reducible apply Gro.drew | with_reducible apply Gro.drewN)))).mono ?_); rintro e w1 ⟨rfl, os1, d1, rfl⟩))
  all_goals
    go_ret
    refine ⟨ret_bool ?_, (by repeat (first | with_reducible exact Gro.refl _ | with_reducible exact Gro.refl_drew _ _ _ | with_reducible exact Gro.refl_drewN _ _ _ _ | assumption | with_reducible apply Gro.more | with_reducible apply Gro.alloc | with_reducible apply Gro.drew | with_reducible apply Gro.drewN))⟩
    simp_all [eq_DRing]
def cntRing (x : DRing) : Nat := x.Records.length
def mkRing (x : DRing) (k : Int) : DRing := { x with Records := mkStrs x.Records k }
set_option maxRecDepth 100000 in
theorem markRing_l {x : DRing} {w : World} {k : Int} {S : List Nat} {A0 : Option Addr} {c0 : Nat} (hO : tRing.O w [.int .i64 x.Capacity, .slice A0 x.Records.length c0, .int .i64 x.Written, .int .i64 x.Lost] x S) (hS : S.Nodup) (h00 : 0 < k) (h01 : k + (cntRing x : Nat) ≤ 1099511627776) : Calls Try.prog 52 #[.agg #[.int .i64 x.Capacity, .slice A0 x.Records.length c0, .int .i64 x.Written, .int .i64 x.Lost], .int .i64 k] w fun e w' => e = .returned (.int .i64 (k + (cntRing x : Nat))) ∧ tRing.O w' [.int .i64 x.Capacity, .slice A0 x.Records.length c0, .int .i64 x.Written, .int .i64 x.Lost] (mkRing x k) S ∧ OnlyS S w w' := by
  obtain ⟨A0', c0', S0, hcl, rfl, h0, h1, h2, h3⟩ := tRing_O hO
  simp only [List.cons.injEq, Value.slice.injEq, true_and, and_true] at hcl
  obtain ⟨rfl, rfl⟩ := hcl
  have hlt := Ty.ltO _ hO
  unfold cntRing at h01 ⊢
  go_enter Try.func52, Try.ntmps52
  go_wp2_with (fail)
  refine (markStringS_l (xs := x.Records) (Ty.groO _ h1 (by repeat (first | with_reducible exact Gro.refl _ | with_reducible exact Gro.refl_drew _ _ _ | with_reducible exact Gro.refl_drewN _ _ _ _ | assumption | with_reducible apply Gro.more | with_reducible apply Gro.alloc | with_reducible apply Gro.drew | with_reducible apply Gro.drewN))) hS h00 (by omega)).mono ?_
  rintro e w1 ⟨rfl, hO1, hs1⟩
  go_wp2
  go_ret
  refine ⟨rfl, ?_, (Gro.only (by repeat (first | with_reducible exact Gro.refl _ | with_reducible exact Gro.refl_drew _ _ _ | with_reducible exact Gro.refl_drewN _ _ _ _ | assumption | with_reducible apply Gro.more | with_reducible apply Gro.alloc | with_reducible apply Gro.drew | with_reducible apply Gro.drewN)) _).trans hs1⟩
  have h := tRing_mkO (w := w1) (x := mkRing x k) A0 c0 _ (by simpa [mkRing] using h0) (by simpa [mkRing, mkStrs_length] using hO1) (by simpa [mkRing] using h2) (by simpa [mkRing] using h3)
  simpa [mkRing, mkStrs_length] using h
set_option maxRecDepth 100000 in
theorem heldRing_l {x : DRing} {w : World} {k : Int} {A0 : Option Addr} {c0 : Nat} (h1 : (strT.sl 9).R w w.heap.size [.slice A0 x.Records.length c0] (mkStrs x.Records k)) (h00 : 0 < k) (h01 : k + (cntRing x : Nat) ≤ 1099511627776) : Calls Try.prog 54 #[.agg #[.int .i64 x.Capacity, .slice A0 x.Records.length c0, .int .i64 x.Written, .int .i64 x.Lost], .int .i64 k] w fun e w' => e = .returned (.int .i64 (k + (cntRing x : Nat))) ∧ Gro w w' := by
  unfold cntRing at h01 ⊢
  go_enter Try.func54, Try.ntmps54
  go_wp2_with (fail)
  refine (heldStringS_l (xs := x.Records) (Nat.le_refl _) (Ty.up _ h1 (by repeat (first | with_reducible exact Gro.refl _ | with_reducible exact Gro.refl_drew _ _ _ | with_reducible exact Gro.refl_drewN _ _ _ _ | assumption | with_reducible apply Gro.more | with_reducible apply Gro.alloc | with_reducible apply Gro.drew | with_reducible apply Gro.drewN))) h00 (by omega)).mono ?_
  rintro e w1 ⟨rfl, os, d, rfl⟩
  go_wp2
  go_ret
  exact ⟨rfl, (by repeat (first | with_reducible exact Gro.refl _ | with_reducible exact Gro.refl_drew _ _ _ | with_reducible exact Gro.refl_drewN _ _ _ _ | assumption | with_reducible apply Gro.more | with_reducible apply Gro.alloc | with_reducible apply Gro.drew | with_reducible apply Gro.drewN))⟩
end Go.Proofs.Ytgenkhlekhilbaa
