/-
  STRUCTS, written by a program (genfun.py): View, Sample: the laws' own toX, szX, eqX.
-/
import Derived.Test.YtgenkhlekhilbaaLists
import Derived.Test.YtgenkhlekhilbaaTySample
namespace Go.Proofs.Ytgenkhlekhilbaa
open Go.RowKit
def RetView (x : DView) (w : World) (r : Ending) (w' : World) : Prop := ∃ A0 c0, r = .returned (.agg #[.int .i64 x.Pc, .int .i64 x.Sp, .int .i64 x.Fp, .slice A0 x.Words.length c0]) ∧ Fresh tView w w' [.int .i64 x.Pc, .int .i64 x.Sp, .int .i64 x.Fp, .slice A0 x.Words.length c0] x ∧ Gro w w'
theorem tView_mkOd {w : World} {x : DView} {A0 : Option Addr} {c0 : Nat} {S3 : List Nat} (h0 : I64 x.Pc) (h1 : I64 x.Sp) (h2 : I64 x.Fp) (h3 : (intT.sl 3).O w [.slice A0 x.Words.length c0] x.Words S3) : tView.O w [.int .i64 x.Pc, .int .i64 x.Sp, .int .i64 x.Fp, .slice A0 x.Words.length c0] x (S3) := by
  have h : tView.O w [.int .i64 x.Pc, .int .i64 x.Sp, .int .i64 x.Fp, .slice A0 x.Words.length c0] x ([] ++ ([] ++ ([] ++ S3))) := ⟨[.int .i64 x.Pc], [.int .i64 x.Sp, .int .i64 x.Fp, .slice A0 x.Words.length c0], [], ([] ++ ([] ++ S3)), rfl, rfl, ⟨rfl, h0.1, h0.2, rfl⟩, ⟨[.int .i64 x.Sp], [.int .i64 x.Fp, .slice A0 x.Words.length c0], [], ([] ++ S3), rfl, rfl, ⟨rfl, h1.1, h1.2, rfl⟩, ⟨[.int .i64 x.Fp], [.slice A0 x.Words.length c0], [], S3, rfl, rfl, ⟨rfl, h2.1, h2.2, rfl⟩, h3⟩⟩⟩
  simpa using h
theorem tView_fresh {w W : World} {x : DView} {A0 : Option Addr} {c0 : Nat} {u3 : World} {m3 : Nat} (h0 : I64 x.Pc) (h1 : I64 x.Sp) (h2 : I64 x.Fp) (h3 : Fre (intT.sl 3) u3 m3 W [.slice A0 x.Words.length c0] x.Words) (hw3 : w.heap.size ≤ u3.heap.size) : Fresh tView w W [.int .i64 x.Pc, .int .i64 x.Sp, .int .i64 x.Fp, .slice A0 x.Words.length c0] x := by
  obtain ⟨S3, hO3, hN3, hI3⟩ := h3
  exact ⟨_, tView_mkOd h0 h1 h2 hO3, hN3, fun b hb => (by have := hI3 b hb; omega)⟩
theorem eq_DView {x y : DView} : x = y ↔ x.Pc = y.Pc ∧ x.Sp = y.Sp ∧ x.Fp = y.Fp ∧ x.Words = y.Words := by
  cases x
  cases y
  simp
def szView (x : DView) : Nat := x.Words.length
set_option maxRecDepth 100000 in
theorem toView_l {x : DView} {w : World} {A0 : Option Addr} {c0 : Nat} (h0 : I64 x.Pc) (h1 : I64 x.Sp) (h2 : I64 x.Fp) (h3 : (intT.sl 3).R w w.heap.size [.slice A0 x.Words.length c0] x.Words) (hn : szView x ≤ 1099511627776) : Calls Try.prog 70 #[.agg #[.int .i64 x.Pc, .int .i64 x.Sp, .int .i64 x.Fp, .slice A0 x.Words.length c0]] w (RetView x w) := by
  unfold szView at hn
  go_enter Try.func70, Try.ntmps70
  go_wp2_with (first
      | (go_at_call 79; (with_reducible refine (toIntS_l (xs := x.Words) (Ty.up _ h3 (by repeat (first | with_reducible exact Gro.refl _ | with_reducible exact Gro.refl_drew _ _ _ | with_reducible exact Gro.refl_drewN _ _ _ _ | assumption | with_reducible apply Gro.more | with_reducible apply Gro.alloc | with_reducible apply Gro.drew | with_reducible apply Gro.drewN))) (by omega)).mono ?_); rintro e w3 ⟨B0, d0, rfl, hF3, os3, dd3, rfl⟩))
  refine bodyPost_ret (v := .agg #[.int .i64 x.Pc, .int .i64 x.Sp, .int .i64 x.Fp, .slice B0 x.Words.length d0]) (by simp [results, Try.results70, go_sem]) rfl ⟨B0, d0, rfl, ?_, (by repeat (first | with_reducible exact Gro.refl _ | with_reducible exact Gro.refl_drew _ _ _ | with_reducible exact Gro.refl_drewN _ _ _ _ | assumption | with_reducible apply Gro.more | with_reducible apply Gro.alloc | with_reducible apply Gro.drew | with_reducible apply Gro.drewN))⟩
  obtain ⟨S3, hO3, hN3, hL3⟩ := hF3
  have hU3 := Ty.ltO _ hO3
  have hL3' := hL3
  simp at hL3' hU3
  exact ⟨_, tView_mkOd h0 h1 h2 (Ty.same _ hO3 hL3 (by repeat (first | with_reducible exact Same.refl _ _ _ | ((with_reducible refine Same.base ?_ ?_) <;> (simp <;> omega)) | ((with_reducible refine Same.more ?_ ?_ _ _); rotate_left; simp <;> omega) | ((with_reducible refine Same.alloc ?_ ?_ _); rotate_left; simp <;> omega) | with_reducible apply Same.drew | with_reducible apply Same.drewN))), hN3, fun b hb => (by have := hL3' b hb; omega)⟩
set_option maxRecDepth 100000 in
theorem szView_l {x : DView} {w : World} {left : Int} {A0 : Option Addr} {c0 : Nat} (h3 : (intT.sl 3).R w w.heap.size [.slice A0 x.Words.length c0] x.Words) (h00 : 0 ≤ left) (h01 : left ≤ 1099511627776) : Calls Try.prog 67 #[.agg #[.int .i64 x.Pc, .int .i64 x.Sp, .int .i64 x.Fp, .slice A0 x.Words.length c0], .int .i64 left] w fun e w' => e = .returned (.int .i64 (szRes left (szView x))) ∧ Gro w w' := by
  have HS := Lib.hid (show szView x = x.Words.length from by unfold szView; rfl)
  by_cases c0' : (x.Words.length : Int) ≤ left
  · skip
    have e0 : szRes (left) x.Words.length = left - (x.Words.length : Nat) := if_pos (by omega)
    go_enter Try.func67, Try.ntmps67
    go_wp2_with (first
      | (go_at_call 78; (with_reducible refine (szIntS_l (xs := x.Words) (Ty.up _ h3 (by repeat (first | with_reducible exact Gro.refl _ | with_reducible exact Gro.refl_drew _ _ _ | with_reducible exact Gro.refl_drewN _ _ _ _ | assumption | with_reducible apply Gro.more | with_reducible apply Gro.alloc | with_reducible apply Gro.drew | with_reducible apply Gro.drewN))) (by omega) (by omega)).mono ?_); rintro e w0 ⟨rfl, os0, d0, rfl⟩))
    go_ret
    exact ⟨ret_int (by rw [HS.out]; unfold szRes; rw [if_pos (by omega)] <;> omega), (by repeat (first | with_reducible exact Gro.refl _ | with_reducible exact Gro.refl_drew _ _ _ | with_reducible exact Gro.refl_drewN _ _ _ _ | assumption | with_reducible apply Gro.more | with_reducible apply Gro.alloc | with_reducible apply Gro.drew | with_reducible apply Gro.drewN))⟩
  · have e0 : szRes (left) x.Words.length = -1 := if_neg (by omega)
    go_enter Try.func67, Try.ntmps67
    go_wp2_with (first
      | (go_at_call 78; (with_reducible refine (szIntS_l (xs := x.Words) (Ty.up _ h3 (by repeat (first | with_reducible exact Gro.refl _ | with_reducible exact Gro.refl_drew _ _ _ | with_reducible exact Gro.refl_drewN _ _ _ _ | assumption | with_reducible apply Gro.more | with_reducible apply Gro.alloc | with_reducible apply Gro.drew | with_reducible apply Gro.drewN))) (by omega) (by omega)).mono ?_); rintro e w0 ⟨rfl, os0, d0, rfl⟩))
    go_ret
    exact ⟨ret_int (by rw [HS.out]; unfold szRes; rw [if_neg (by omega)]), (by repeat (first | with_reducible exact Gro.refl _ | with_reducible exact Gro.refl_drew _ _ _ | with_reducible exact Gro.refl_drewN _ _ _ _ | assumption | with_reducible apply Gro.more | with_reducible apply Gro.alloc | with_reducible apply Gro.drew | with_reducible apply Gro.drewN))⟩
set_option maxRecDepth 100000 in
theorem eqView_l {x y : DView} {w : World} {A0 : Option Addr} {c0 : Nat} {B0 : Option Addr} {d0 : Nat} (h3 : (intT.sl 3).R w w.heap.size [.slice A0 x.Words.length c0] x.Words) (k3 : (intT.sl 3).R w w.heap.size [.slice B0 y.Words.length d0] y.Words) : Calls Try.prog 73 #[.agg #[.int .i64 x.Pc, .int .i64 x.Sp, .int .i64 x.Fp, .slice A0 x.Words.length c0], .agg #[.int .i64 y.Pc, .int .i64 y.Sp, .int .i64 y.Fp, .slice B0 y.Words.length d0]] w fun e w' => e = .returned (.bool (decide (x = y))) ∧ Gro w w' := by
  go_enter Try.func73, Try.ntmps73
  go_wp2_with (first
      | (go_at_call 34; (with_reducible refine (eqIntS_l (xs := x.Words) (ys := y.Words) (Ty.up _ h3 (by repeat (first | with_reducible exact Gro.refl _ | with_reducible exact Gro.refl_drew _ _ _ | with_reducible exact Gro.refl_drewN _ _ _ _ | assumption | with_reducible apply Gro.more | with_reducible apply Gro.alloc | with_reducible apply Gro.drew | with_reducible apply Gro.drewN))) (Ty.up _ k3 (by repeat (first | with_reducible exact Gro.refl _ | with_reducible exact Gro.refl_drew _ _ _ | with_reducible exact Gro.refl_drewN _ _ _ _ | assumption | with_reducible apply Gro.more | with_reducible apply Gro.alloc | with_reducible apply Gro.drew | with_reducible apply Gro.drewN)))).mono ?_); rintro e w3 ⟨rfl, os3, d3, rfl⟩))
  all_goals
    go_ret
    refine ⟨ret_bool ?_, (by repeat (first | with_reducible exact Gro.refl _ | with_reducible exact Gro.refl_drew _ _ _ | with_reducible exact Gro.refl_drewN _ _ _ _ | assumption | with_reducible apply Gro.more | with_reducible apply Gro.alloc | with_reducible apply Gro.drew | with_reducible apply Gro.drewN))⟩
    simp_all [eq_DView]
def cntView (x : DView) : Nat := x.Words.length
def mkView (x : DView) (k : Int) : DView := { x with Words := mkInts x.Words k }
def RetSample (x : DSample) (w : World) (r : Ending) (w' : World) : Prop := ∃ A0 c0, r = .returned (.agg #[.int .i64 x.Thread, .int .i64 x.View.Pc, .int .i64 x.View.Sp, .int .i64 x.View.Fp, .slice A0 x.View.Words.length c0]) ∧ Fresh tSample w w' [.int .i64 x.Thread, .int .i64 x.View.Pc, .int .i64 x.View.Sp, .int .i64 x.View.Fp, .slice A0 x.View.Words.length c0] x ∧ Gro w w'
theorem tSample_mkOd {w : World} {x : DSample} {A0 : Option Addr} {c0 : Nat} {S1 : List Nat} (h0 : I64 x.Thread) (h1 : tView.O w [.int .i64 x.View.Pc, .int .i64 x.View.Sp, .int .i64 x.View.Fp, .slice A0 x.View.Words.length c0] x.View S1) : tSample.O w [.int .i64 x.Thread, .int .i64 x.View.Pc, .int .i64 x.View.Sp, .int .i64 x.View.Fp, .slice A0 x.View.Words.length c0] x (S1) := by
  have h : tSample.O w [.int .i64 x.Thread, .int .i64 x.View.Pc, .int .i64 x.View.Sp, .int .i64 x.View.Fp, .slice A0 x.View.Words.length c0] x ([] ++ S1) := ⟨[.int .i64 x.Thread], [.int .i64 x.View.Pc, .int .i64 x.View.Sp, .int .i64 x.View.Fp, .slice A0 x.View.Words.length c0], [], S1, rfl, rfl, ⟨rfl, h0.1, h0.2, rfl⟩, h1⟩
  simpa using h
theorem tSample_fresh {w W : World} {x : DSample} {A0 : Option Addr} {c0 : Nat} {u1 : World} {m1 : Nat} (h0 : I64 x.Thread) (h1 : Fre tView u1 m1 W [.int .i64 x.View.Pc, .int .i64 x.View.Sp, .int .i64 x.View.Fp, .slice A0 x.View.Words.length c0] x.View) (hw1 : w.heap.size ≤ u1.heap.size) : Fresh tSample w W [.int .i64 x.Thread, .int .i64 x.View.Pc, .int .i64 x.View.Sp, .int .i64 x.View.Fp, .slice A0 x.View.Words.length c0] x := by
  obtain ⟨S1, hO1, hN1, hI1⟩ := h1
  exact ⟨_, tSample_mkOd h0 hO1, hN1, fun b hb => (by have := hI1 b hb; omega)⟩
theorem eq_DSample {x y : DSample} : x = y ↔ x.Thread = y.Thread ∧ x.View = y.View := by
  cases x
  cases y
  simp
def szSample (x : DSample) : Nat := szView x.View
set_option maxRecDepth 100000 in
theorem toSample_l {x : DSample} {w : World} {A0 : Option Addr} {c0 : Nat} (h0 : I64 x.Thread) (h1 : I64 x.View.Pc) (h2 : I64 x.View.Sp) (h3 : I64 x.View.Fp) (h4 : (intT.sl 3).R w w.heap.size [.slice A0 x.View.Words.length c0] x.View.Words) (hn : szSample x ≤ 1099511627776) : Calls Try.prog 47 #[.agg #[.int .i64 x.Thread, .int .i64 x.View.Pc, .int .i64 x.View.Sp, .int .i64 x.View.Fp, .slice A0 x.View.Words.length c0]] w (RetSample x w) := by
  unfold szSample at hn
  go_enter Try.func47, Try.ntmps47
  go_wp2_with (first
      | (go_at_call 70; (with_reducible refine (toView_l (x := x.View) h1 h2 h3 (Ty.up _ h4 (by repeat (first | with_reducible exact Gro.refl _ | with_reducible exact Gro.refl_drew _ _ _ | with_reducible exact Gro.refl_drewN _ _ _ _ | assumption | with_reducible apply Gro.more | with_reducible apply Gro.alloc | with_reducible apply Gro.drew | with_reducible apply Gro.drewN))) (by omega)).mono ?_); rintro e w1 ⟨B0, d0, rfl, hF1, os1, dd1, rfl⟩))
  refine bodyPost_ret (v := .agg #[.int .i64 x.Thread, .int .i64 x.View.Pc, .int .i64 x.View.Sp, .int .i64 x.View.Fp, .slice B0 x.View.Words.length d0]) (by simp [results, Try.results47, go_sem]) rfl ⟨B0, d0, rfl, ?_, (by repeat (first | with_reducible exact Gro.refl _ | with_reducible exact Gro.refl_drew _ _ _ | with_reducible exact Gro.refl_drewN _ _ _ _ | assumption | with_reducible apply Gro.more | with_reducible apply Gro.alloc | with_reducible apply Gro.drew | with_reducible apply Gro.drewN))⟩
  obtain ⟨S1, hO1, hN1, hL1⟩ := hF1
  have hU1 := Ty.ltO _ hO1
  have hL1' := hL1
  simp at hL1' hU1
  exact ⟨_, tSample_mkOd h0 (Ty.same _ hO1 hL1 (by repeat (first | with_reducible exact Same.refl _ _ _ | ((with_reducible refine Same.base ?_ ?_) <;> (simp <;> omega)) | ((with_reducible refine Same.more ?_ ?_ _ _); rotate_left; simp <;> omega) | ((with_reducible refine Same.alloc ?_ ?_ _); rotate_left; simp <;> omega) | with_reducible apply Same.drew | with_reducible apply Same.drewN))), hN1, fun b hb => (by have := hL1' b hb; omega)⟩
set_option maxRecDepth 100000 in
theorem szSample_l {x : DSample} {w : World} {left : Int} {A0 : Option Addr} {c0 : Nat} (h4 : (intT.sl 3).R w w.heap.size [.slice A0 x.View.Words.length c0] x.View.Words) (h00 : 0 ≤ left) (h01 : left ≤ 1099511627776) : Calls Try.prog 45 #[.agg #[.int .i64 x.Thread, .int .i64 x.View.Pc, .int .i64 x.View.Sp, .int .i64 x.View.Fp, .slice A0 x.View.Words.length c0], .int .i64 left] w fun e w' => e = .returned (.int .i64 (szRes left (szSample x))) ∧ Gro w w' := by
  obtain ⟨n0, hn0⟩ : ∃ n, szView x.View = n := ⟨_, rfl⟩
  have HS := Lib.hid (show szSample x = n0 from by unfold szSample; rw [hn0])
  have HN0 := Lib.hid hn0
  clear hn0
  by_cases c0' : (n0 : Int) ≤ left
  · skip
    have e0 : szRes (left) n0 = left - (n0 : Nat) := if_pos (by omega)
    go_enter Try.func45, Try.ntmps45
    go_wp2_with (first
      | (go_at_call 67; (with_reducible refine (szView_l (x := x.View) (Ty.up _ h4 (by repeat (first | with_reducible exact Gro.refl _ | with_reducible exact Gro.refl_drew _ _ _ | with_reducible exact Gro.refl_drewN _ _ _ _ | assumption | with_reducible apply Gro.more | with_reducible apply Gro.alloc | with_reducible apply Gro.drew | with_reducible apply Gro.drewN))) (by omega) (by omega)).mono ?_); rintro e w0 ⟨rfl, os0, d0, rfl⟩; rw [HN0.out]))
    go_ret
    exact ⟨ret_int (by rw [HS.out]; unfold szRes; rw [if_pos (by omega)] <;> omega), (by repeat (first | with_reducible exact Gro.refl _ | with_reducible exact Gro.refl_drew _ _ _ | with_reducible exact Gro.refl_drewN _ _ _ _ | assumption | with_reducible apply Gro.more | with_reducible apply Gro.alloc | with_reducible apply Gro.drew | with_reducible apply Gro.drewN))⟩
  · have e0 : szRes (left) n0 = -1 := if_neg (by omega)
    go_enter Try.func45, Try.ntmps45
    go_wp2_with (first
      | (go_at_call 67; (with_reducible refine (szView_l (x := x.View) (Ty.up _ h4 (by repeat (first | with_reducible exact Gro.refl _ | with_reducible exact Gro.refl_drew _ _ _ | with_reducible exact Gro.refl_drewN _ _ _ _ | assumption | with_reducible apply Gro.more | with_reducible apply Gro.alloc | with_reducible apply Gro.drew | with_reducible apply Gro.drewN))) (by omega) (by omega)).mono ?_); rintro e w0 ⟨rfl, os0, d0, rfl⟩; rw [HN0.out]))
    go_ret
    exact ⟨ret_int (by rw [HS.out]; unfold szRes; rw [if_neg (by omega)]), (by repeat (first | with_reducible exact Gro.refl _ | with_reducible exact Gro.refl_drew _ _ _ | with_reducible exact Gro.refl_drewN _ _ _ _ | assumption | with_reducible apply Gro.more | with_reducible apply Gro.alloc | with_reducible apply Gro.drew | with_reducible apply Gro.drewN))⟩
set_option maxRecDepth 100000 in
theorem eqSample_l {x y : DSample} {w : World} {A0 : Option Addr} {c0 : Nat} {B0 : Option Addr} {d0 : Nat} (h4 : (intT.sl 3).R w w.heap.size [.slice A0 x.View.Words.length c0] x.View.Words) (k4 : (intT.sl 3).R w w.heap.size [.slice B0 y.View.Words.length d0] y.View.Words) : Calls Try.prog 49 #[.agg #[.int .i64 x.Thread, .int .i64 x.View.Pc, .int .i64 x.View.Sp, .int .i64 x.View.Fp, .slice A0 x.View.Words.length c0], .agg #[.int .i64 y.Thread, .int .i64 y.View.Pc, .int .i64 y.View.Sp, .int .i64 y.View.Fp, .slice B0 y.View.Words.length d0]] w fun e w' => e = .returned (.bool (decide (x = y))) ∧ Gro w w' := by
  go_enter Try.func49, Try.ntmps49
  go_wp2_with (first
      | (go_at_call 73; (with_reducible refine (eqView_l (x := x.View) (y := y.View) (Ty.up _ h4 (by repeat (first | with_reducible exact Gro.refl _ | with_reducible exact Gro.refl_drew _ _ _ | with_reducible exact Gro.refl_drewN _ _ _ _ | assumption | with_reducible apply Gro.more | with_reducible apply Gro.alloc | with_reducible apply Gro.drew | with_reducible apply Gro.drewN))) (Ty.up _ k4 (by repeat (first | with_reducible exact Gro.refl _ | with_reducible exact Gro.refl_drew _ _ _ | with_reducible exact Gro.refl_drewN _ _ _ _ | assumption | with_reducible apply Gro.more | with_reducible apply Gro.alloc | with_reducible apply Gro.drew | with_reducible apply Gro.drewN)))).mono ?_); rintro e w1 ⟨rfl, os1, d1, rfl⟩))
  all_goals
    go_ret
    refine ⟨ret_bool ?_, (by repeat (first | with_reducible exact Gro.refl _ | with_reducible exact Gro.refl_drew _ _ _ | with_reducible exact Gro.refl_drewN _ _ _ _ | assumption | with_reducible apply Gro.more | with_reducible apply Gro.alloc | with_reducible apply Gro.drew | with_reducible apply Gro.drewN))⟩
    simp_all [eq_DSample]
def cntSample (x : DSample) : Nat := cntView x.View
def mkSample (x : DSample) (k : Int) : DSample := { x with View := mkView x.View k }
end Go.Proofs.Ytgenkhlekhilbaa
