/-
  STRUCTS, written by a program (genfun.py): View, Sample: the laws' own toX, szX, eqX.
-/
import Derived.Test.YtemeenondbdioaaLists
import Derived.Test.YtemeenondbdioaaTySample
set_option linter.unusedVariables false
set_option linter.unusedSimpArgs false
namespace Go.Proofs.Ytemeenondbdioaa
open Go.RowKit
def RetView (x : DView) (w : World) (r : Ending) (w' : World) : Prop := ∃ A0 c0, r = .returned (.agg #[.int .i64 x.Pc, .int .i64 x.Sp, .int .i64 x.Fp, .slice A0 x.Words.length c0]) ∧ Fresh tView w w' [.int .i64 x.Pc, .int .i64 x.Sp, .int .i64 x.Fp, .slice A0 x.Words.length c0] x ∧ Gro w w'
theorem tView_mkOd {w : World} {x : DView} {A0 : Option Addr} {c0 : Nat} {S3 : List Nat} (h0 : I64 x.Pc) (h1 : I64 x.Sp) (h2 : I64 x.Fp) (h3 : (intT.sl 3).O w [.slice A0 x.Words.length c0] x.Words S3) : tView.O w [.int .i64 x.Pc, .int .i64 x.Sp, .int .i64 x.Fp, .slice A0 x.Words.length c0] x (S3) := by
  have h : tView.O w [.int .i64 x.Pc, .int .i64 x.Sp, .int .i64 x.Fp, .slice A0 x.Words.length c0] x ([] ++ ([] ++ ([] ++ S3))) := ⟨[.int .i64 x.Pc], [.int .i64 x.Sp, .int .i64 x.Fp, .slice A0 x.Words.length c0], [], ([] ++ ([] ++ S3)), rfl, rfl, ⟨rfl, h0.1, h0.2, rfl⟩, ⟨[.int .i64 x.Sp], [.int .i64 x.Fp, .slice A0 x.Words.length c0], [], ([] ++ S3), rfl, rfl, ⟨rfl, h1.1, h1.2, rfl⟩, ⟨[.int .i64 x.Fp], [.slice A0 x.Words.length c0], [], S3, rfl, rfl, ⟨rfl, h2.1, h2.2, rfl⟩, h3⟩⟩⟩
  simpa using h
theorem tView_fresh {w W : World} {x : DView} {A0 : Option Addr} {c0 : Nat} {u3 : World} {m3 : Nat} (h0 : I64 x.Pc) (h1 : I64 x.Sp) (h2 : I64 x.Fp) (h3 : Fre (intT.sl 3) u3 m3 W [.slice A0 x.Words.length c0] x.Words) (hw3 : w.heap.size ≤ u3.heap.size) : Fresh tView w W [.int .i64 x.Pc, .int .i64 x.Sp, .int .i64 x.Fp, .slice A0 x.Words.length c0] x := by
  obtain ⟨S3, hO3, hN3, hI3⟩ := h3
  exact ⟨_, tView_mkOd h0 h1 h2 hO3, hN3, fun b hb => (by have := hI3 b hb; omega)⟩
theorem eq_DView {x y : DView} : x = y ↔ x.Pc = y.Pc ∧ x.Sp = y.Sp ∧ x.Fp = y.Fp ∧ x.Words = y.Words := by
  cases x
  cases y
  simp
def szView (x : DView) : Nat := x.Words.length
set_option maxRecDepth 100000 in
theorem toView_l {x : DView} {w : World} {A0 : Option Addr} {c0 : Nat} (h0 : I64 x.Pc) (h1 : I64 x.Sp) (h2 : I64 x.Fp) (h3 : (intT.sl 3).R w w.heap.size [.slice A0 x.Words.length c0] x.Words) (hn : szView x ≤ 1099511627776) : Calls Try.prog 35 #[.agg #[.int .i64 x.Pc, .int .i64 x.Sp, .int .i64 x.Fp, .slice A0 x.Words.length c0]] w (RetView x w) := by
  unfold szView at hn
  go_enter Try.func35, Try.ntmps35
  go_wp2_with (first
      | (go_at_call 50; (with_reducible refine (toIntS_l (xs := x.Words) (Ty.up _ h3 (by repeat (first | with_reducible exact Gro.refl _ | with_reducible exact Gro.refl_drew _ _ _ | with_reducible exact Gro.refl_drewN _ _ _ _ | assumption | with_reducible apply Gro.more | with_reducible apply Gro.alloc | with_reducible apply Gro.drew | with_reducible apply Gro.drewN))) (by omega)).mono ?_); rintro e w3 ⟨B0, d0, rfl, hF3, os3, dd3, rfl⟩))
  refine bodyPost_ret (v := .agg #[.int .i64 x.Pc, .int .i64 x.Sp, .int .i64 x.Fp, .slice B0 x.Words.length d0]) (by simp [results, Try.results35, go_sem]) rfl ⟨B0, d0, rfl, ?_, (by repeat (first | with_reducible exact Gro.refl _ | with_reducible exact Gro.refl_drew _ _ _ | with_reducible exact Gro.refl_drewN _ _ _ _ | assumption | with_reducible apply Gro.more | with_reducible apply Gro.alloc | with_reducible apply Gro.drew | with_reducible apply Gro.drewN))⟩
  obtain ⟨S3, hO3, hN3, hL3⟩ := hF3
  have hU3 := Ty.ltO _ hO3
  have hL3' := hL3
  simp at hL3' hU3
  exact ⟨_, tView_mkOd h0 h1 h2 (Ty.same _ hO3 hL3 (by repeat (first | with_reducible exact Same.refl _ _ _ | ((with_reducible refine Same.base ?_ ?_) <;> (simp <;> omega)) | ((with_reducible refine Same.more ?_ ?_ _ _); rotate_left; simp <;> omega) | ((with_reducible refine Same.alloc ?_ ?_ _); rotate_left; simp <;> omega) | with_reducible apply Same.drew | with_reducible apply Same.drewN))), hN3, fun b hb => (by have := hL3' b hb; omega)⟩
set_option maxRecDepth 100000 in
theorem szView_l {x : DView} {w : World} {left : Int} {A0 : Option Addr} {c0 : Nat} (h3 : (intT.sl 3).R w w.heap.size [.slice A0 x.Words.length c0] x.Words) (h00 : 0 ≤ left) (h01 : left ≤ 1099511627776) : Calls Try.prog 31 #[.agg #[.int .i64 x.Pc, .int .i64 x.Sp, .int .i64 x.Fp, .slice A0 x.Words.length c0], .int .i64 left] w fun e w' => e = .returned (.int .i64 (szRes left (szView x))) ∧ Gro w w' := by
  have HS := Lib.hid (show szView x = x.Words.length from by unfold szView; rfl)
  by_cases c0' : (x.Words.length : Int) ≤ left
  · skip
    have e0 : szRes (left) x.Words.length = left - (x.Words.length : Nat) := if_pos (by omega)
    go_enter Try.func31, Try.ntmps31
    go_wp2_with (first
      | (go_at_call 47; (with_reducible refine (szIntS_l (xs := x.Words) (Ty.up _ h3 (by repeat (first | with_reducible exact Gro.refl _ | with_reducible exact Gro.refl_drew _ _ _ | with_reducible exact Gro.refl_drewN _ _ _ _ | assumption | with_reducible apply Gro.more | with_reducible apply Gro.alloc | with_reducible apply Gro.drew | with_reducible apply Gro.drewN))) (by omega) (by omega)).mono ?_); rintro e w0 ⟨rfl, os0, d0, rfl⟩))
    go_ret
    exact ⟨ret_int (by rw [HS.out]; unfold szRes; rw [if_pos (by omega)] <;> omega), (by repeat (first | with_reducible exact Gro.refl _ | with_reducible exact Gro.refl_drew _ _ _ | with_reducible exact Gro.refl_drewN _ _ _ _ | assumption | with_reducible apply Gro.more | with_reducible apply Gro.alloc | with_reducible apply Gro.drew | with_reducible apply Gro.drewN))⟩
  · have e0 : szRes (left) x.Words.length = -1 := if_neg (by omega)
    go_enter Try.func31, Try.ntmps31
    go_wp2_with (first
      | (go_at_call 47; (with_reducible refine (szIntS_l (xs := x.Words) (Ty.up _ h3 (by repeat (first | with_reducible exact Gro.refl _ | with_reducible exact Gro.refl_drew _ _ _ | with_reducible exact Gro.refl_drewN _ _ _ _ | assumption | with_reducible apply Gro.more | with_reducible apply Gro.alloc | with_reducible apply Gro.drew | with_reducible apply Gro.drewN))) (by omega) (by omega)).mono ?_); rintro e w0 ⟨rfl, os0, d0, rfl⟩))
    go_ret
    exact ⟨ret_int (by rw [HS.out]; unfold szRes; rw [if_neg (by omega)]), (by repeat (first | with_reducible exact Gro.refl _ | with_reducible exact Gro.refl_drew _ _ _ | with_reducible exact Gro.refl_drewN _ _ _ _ | assumption | with_reducible apply Gro.more | with_reducible apply Gro.alloc | with_reducible apply Gro.drew | with_reducible apply Gro.drewN))⟩
set_option maxRecDepth 100000 in
theorem eqView_l {x y : DView} {w : World} {A0 : Option Addr} {c0 : Nat} {B0 : Option Addr} {d0 : Nat} (h3 : (intT.sl 3).R w w.heap.size [.slice A0 x.Words.length c0] x.Words) (k3 : (intT.sl 3).R w w.heap.size [.slice B0 y.Words.length d0] y.Words) : Calls Try.prog 39 #[.agg #[.int .i64 x.Pc, .int .i64 x.Sp, .int .i64 x.Fp, .slice A0 x.Words.length c0], .agg #[.int .i64 y.Pc, .int .i64 y.Sp, .int .i64 y.Fp, .slice B0 y.Words.length d0]] w fun e w' => e = .returned (.bool (decide (x = y))) ∧ Gro w w' := by
  go_enter Try.func39, Try.ntmps39
  go_wp2_with (first
      | (go_at_call 55; (with_reducible refine (eqIntS_l (xs := x.Words) (ys := y.Words) (Ty.up _ h3 (by repeat (first | with_reducible exact Gro.refl _ | with_reducible exact Gro.refl_drew _ _ _ | with_reducible exact Gro.refl_drewN _ _ _ _ | assumption | with_reducible apply Gro.more | with_reducible apply Gro.alloc | with_reducible apply Gro.drew | with_reducible apply Gro.drewN))) (Ty.up _ k3 (by repeat (first | with_reducible exact Gro.refl _ | with_reducible exact Gro.refl_drew _ _ _ | with_reducible exact Gro.refl_drewN _ _ _ _ | assumption | with_reducible apply Gro.more | with_reducible apply Gro.alloc | with_reducible apply Gro.drew | with_reducible apply Gro.drewN)))).mono ?_); rintro e w3 ⟨rfl, os3, d3, rfl⟩))
  all_goals
    go_ret
    refine ⟨ret_bool ?_, (by repeat (first | with_reducible exact Gro.refl _ | with_reducible exact Gro.refl_drew _ _ _ | with_reducible exact Gro.refl_drewN _ _ _ _ | assumption | with_reducible apply Gro.more | with_reducible apply Gro.alloc | with_reducible apply Gro.drew | with_reducible apply Gro.drewN))⟩
    simp_all [eq_DView]
def cntView (x : DView) : Nat := x.Words.length
def mkView (x : DView) (k : Int) : DView := { x with Words := mkInts x.Words k }
set_option maxRecDepth 100000 in
theorem markView_l {x : DView} {w : World} {k : Int} {S : List Nat} {A0 : Option Addr} {c0 : Nat} (hO : tView.O w [.int .i64 x.Pc, .int .i64 x.Sp, .int .i64 x.Fp, .slice A0 x.Words.length c0] x S) (hS : S.Nodup) (h00 : 0 < k) (h01 : k + (cntView x : Nat) ≤ 1099511627776) : Calls Try.prog 44 #[.agg #[.int .i64 x.Pc, .int .i64 x.Sp, .int .i64 x.Fp, .slice A0 x.Words.length c0], .int .i64 k] w fun e w' => e = .returned (.int .i64 (k + (cntView x : Nat))) ∧ tView.O w' [.int .i64 x.Pc, .int .i64 x.Sp, .int .i64 x.Fp, .slice A0 x.Words.length c0] (mkView x k) S ∧ OnlyS S w w' := by
  obtain ⟨A0', c0', S0, hcl, rfl, h0, h1, h2, h3⟩ := tView_O hO
  simp only [List.cons.injEq, Value.slice.injEq, true_and, and_true] at hcl
  obtain ⟨rfl, rfl⟩ := hcl
  have hlt := Ty.ltO _ hO
  unfold cntView at h01 ⊢
  have hN0 := hS
  have hO0 := h3
  have hL0 := Ty.ltO _ hO0
  go_enter Try.func44, Try.ntmps44
  go_wp2_with (fail)
  refine (markIntS_l (xs := x.Words) (Ty.groO _ hO0 (by repeat (first | with_reducible exact Gro.refl _ | with_reducible exact Gro.refl_drew _ _ _ | with_reducible exact Gro.refl_drewN _ _ _ _ | assumption | with_reducible apply Gro.more | with_reducible apply Gro.alloc | with_reducible apply Gro.drew | with_reducible apply Gro.drewN))) hN0 (by omega) (by omega)).mono ?_
  rintro e w1 ⟨rfl, hM0, hs1⟩
  go_wp2
  go_ret
  refine ⟨ret_int (by push_cast; omega), ?_, ((Gro.only (by repeat (first | with_reducible exact Gro.refl _ | with_reducible exact Gro.refl_drew _ _ _ | with_reducible exact Gro.refl_drewN _ _ _ _ | assumption | with_reducible apply Gro.more | with_reducible apply Gro.alloc | with_reducible apply Gro.drew | with_reducible apply Gro.drewN)) _).trans hs1)⟩
  have h := tView_mkOd (w := w1) (x := mkView x k) (by simpa [mkView] using h0) (by simpa [mkView] using h1) (by simpa [mkView] using h2) (by simpa [mkView, mkInts_length] using hM0)
  simpa [mkView, mkInts_length] using h
theorem mkView_read {x : DView} {w : World} {k : Int} {S : List Nat} {A0 : Option Addr} {c0 : Nat} (hO : tView.O w [.int .i64 x.Pc, .int .i64 x.Sp, .int .i64 x.Fp, .slice A0 x.Words.length c0] (mkView x k) S) : (intT.sl 3).R w w.heap.size [.slice A0 x.Words.length c0] (mkView x k).Words := by
  obtain ⟨A0', c0', S0, hcl, rfl, h0, h1, h2, h3⟩ := tView_O hO
  simp only [List.cons.injEq, Value.slice.injEq, true_and, and_true] at hcl
  have eh3 : (mkView x k).Words.length = x.Words.length := by simp [mkView, mkInts_length]
  have es0 : (mkView x k).Pc = x.Pc := by first | rfl | simp [mkView, mkInts_length]
  have es1 : (mkView x k).Sp = x.Sp := by first | rfl | simp [mkView, mkInts_length]
  have es2 : (mkView x k).Fp = x.Fp := by first | rfl | simp [mkView, mkInts_length]
  simp only [eh3, es0, es1, es2, true_and, and_true] at hcl
  obtain ⟨rfl, rfl⟩ := hcl
  rw [eh3] at h3
  exact Ty.read _ h3
set_option maxRecDepth 100000 in
theorem heldView_l {x : DView} {w : World} {k : Int} {A0 : Option Addr} {c0 : Nat} (h0 : (intT.sl 3).R w w.heap.size [.slice A0 x.Words.length c0] (mkView x k).Words) (h00 : 0 < k) (h01 : k + (cntView x : Nat) ≤ 1099511627776) : Calls Try.prog 45 #[.agg #[.int .i64 x.Pc, .int .i64 x.Sp, .int .i64 x.Fp, .slice A0 x.Words.length c0], .int .i64 k] w fun e w' => e = .returned (.int .i64 (k + (cntView x : Nat))) ∧ Gro w w' := by
  unfold cntView at h01 ⊢
  go_enter Try.func45, Try.ntmps45
  go_wp2_with (fail)
  refine (heldIntS_l (xs := x.Words) (Nat.le_refl _) (Ty.up _ h0 (by repeat (first | with_reducible exact Gro.refl _ | with_reducible exact Gro.refl_drew _ _ _ | with_reducible exact Gro.refl_drewN _ _ _ _ | assumption | with_reducible apply Gro.more | with_reducible apply Gro.alloc | with_reducible apply Gro.drew | with_reducible apply Gro.drewN))) (by omega) (by omega)).mono ?_
  rintro e w1 ⟨rfl, os1, d1, rfl⟩
  go_wp2
  go_ret
  exact ⟨ret_int (by push_cast; omega), (by repeat (first | with_reducible exact Gro.refl _ | with_reducible exact Gro.refl_drew _ _ _ | with_reducible exact Gro.refl_drewN _ _ _ _ | assumption | with_reducible apply Gro.more | with_reducible apply Gro.alloc | with_reducible apply Gro.drew | with_reducible apply Gro.drewN))⟩
def RetSample (x : DSample) (w : World) (r : Ending) (w' : World) : Prop := ∃ A0 c0, r = .returned (.agg #[.int .i64 x.Thread, .int .i64 x.View.Pc, .int .i64 x.View.Sp, .int .i64 x.View.Fp, .slice A0 x.View.Words.length c0]) ∧ Fresh tSample w w' [.int .i64 x.Thread, .int .i64 x.View.Pc, .int .i64 x.View.Sp, .int .i64 x.View.Fp, .slice A0 x.View.Words.length c0] x ∧ Gro w w'
theorem tSample_mkOd {w : World} {x : DSample} {A0 : Option Addr} {c0 : Nat} {S1 : List Nat} (h0 : I64 x.Thread) (h1 : tView.O w [.int .i64 x.View.Pc, .int .i64 x.View.Sp, .int .i64 x.View.Fp, .slice A0 x.View.Words.length c0] x.View S1) : tSample.O w [.int .i64 x.Thread, .int .i64 x.View.Pc, .int .i64 x.View.Sp, .int .i64 x.View.Fp, .slice A0 x.View.Words.length c0] x (S1) := by
  have h : tSample.O w [.int .i64 x.Thread, .int .i64 x.View.Pc, .int .i64 x.View.Sp, .int .i64 x.View.Fp, .slice A0 x.View.Words.length c0] x ([] ++ S1) := ⟨[.int .i64 x.Thread], [.int .i64 x.View.Pc, .int .i64 x.View.Sp, .int .i64 x.View.Fp, .slice A0 x.View.Words.length c0], [], S1, rfl, rfl, ⟨rfl, h0.1, h0.2, rfl⟩, h1⟩
  simpa using h
theorem tSample_fresh {w W : World} {x : DSample} {A0 : Option Addr} {c0 : Nat} {u1 : World} {m1 : Nat} (h0 : I64 x.Thread) (h1 : Fre tView u1 m1 W [.int .i64 x.View.Pc, .int .i64 x.View.Sp, .int .i64 x.View.Fp, .slice A0 x.View.Words.length c0] x.View) (hw1 : w.heap.size ≤ u1.heap.size) : Fresh tSample w W [.int .i64 x.Thread, .int .i64 x.View.Pc, .int .i64 x.View.Sp, .int .i64 x.View.Fp, .slice A0 x.View.Words.length c0] x := by
  obtain ⟨S1, hO1, hN1, hI1⟩ := h1
  exact ⟨_, tSample_mkOd h0 hO1, hN1, fun b hb => (by have := hI1 b hb; omega)⟩
theorem eq_DSample {x y : DSample} : x = y ↔ x.Thread = y.Thread ∧ x.View = y.View := by
  cases x
  cases y
  simp
def szSample (x : DSample) : Nat := szView x.View
set_option maxRecDepth 100000 in
theorem toSample_l {x : DSample} {w : World} {A0 : Option Addr} {c0 : Nat} (h0 : I64 x.Thread) (h1 : I64 x.View.Pc) (h2 : I64 x.View.Sp) (h3 : I64 x.View.Fp) (h4 : (intT.sl 3).R w w.heap.size [.slice A0 x.View.Words.length c0] x.View.Words) (hn : szSample x ≤ 1099511627776) : Calls Try.prog 10 #[.agg #[.int .i64 x.Thread, .int .i64 x.View.Pc, .int .i64 x.View.Sp, .int .i64 x.View.Fp, .slice A0 x.View.Words.length c0]] w (RetSample x w) := by
  unfold szSample at hn
  go_enter Try.func10, Try.ntmps10
  go_wp2_with (first
      | (go_at_call 35; (with_reducible refine (toView_l (x := x.View) h1 h2 h3 (Ty.up _ h4 (by repeat (first | with_reducible exact Gro.refl _ | with_reducible exact Gro.refl_drew _ _ _ | with_reducible exact Gro.refl_drewN _ _ _ _ | assumption | with_reducible apply Gro.more | with_reducible apply Gro.alloc | with_reducible apply Gro.drew | with_reducible apply Gro.drewN))) (by omega)).mono ?_); rintro e w1 ⟨B0, d0, rfl, hF1, os1, dd1, rfl⟩))
  refine bodyPost_ret (v := .agg #[.int .i64 x.Thread, .int .i64 x.View.Pc, .int .i64 x.View.Sp, .int .i64 x.View.Fp, .slice B0 x.View.Words.length d0]) (by simp [results, Try.results10, go_sem]) rfl ⟨B0, d0, rfl, ?_, (by repeat (first | with_reducible exact Gro.refl _ | with_reducible exact Gro.refl_drew _ _ _ | with_reducible exact Gro.refl_drewN _ _ _ _ | assumption | with_reducible apply Gro.more | with_reducible apply Gro.alloc | with_reducible apply Gro.drew | with_reducible apply Gro.drewN))⟩
  obtain ⟨S1, hO1, hN1, hL1⟩ := hF1
  have hU1 := Ty.ltO _ hO1
  have hL1' := hL1
  simp at hL1' hU1
  exact ⟨_, tSample_mkOd h0 (Ty.same _ hO1 hL1 (by repeat (first | with_reducible exact Same.refl _ _ _ | ((with_reducible refine Same.base ?_ ?_) <;> (simp <;> omega)) | ((with_reducible refine Same.more ?_ ?_ _ _); rotate_left; simp <;> omega) | ((with_reducible refine Same.alloc ?_ ?_ _); rotate_left; simp <;> omega) | with_reducible apply Same.drew | with_reducible apply Same.drewN))), hN1, fun b hb => (by have := hL1' b hb; omega)⟩
set_option maxRecDepth 100000 in
theorem szSample_l {x : DSample} {w : World} {left : Int} {A0 : Option Addr} {c0 : Nat} (h4 : (intT.sl 3).R w w.heap.size [.slice A0 x.View.Words.length c0] x.View.Words) (h00 : 0 ≤ left) (h01 : left ≤ 1099511627776) : Calls Try.prog 8 #[.agg #[.int .i64 x.Thread, .int .i64 x.View.Pc, .int .i64 x.View.Sp, .int .i64 x.View.Fp, .slice A0 x.View.Words.length c0], .int .i64 left] w fun e w' => e = .returned (.int .i64 (szRes left (szSample x))) ∧ Gro w w' := by
  obtain ⟨n0, hn0⟩ : ∃ n, szView x.View = n := ⟨_, rfl⟩
  have HS := Lib.hid (show szSample x = n0 from by unfold szSample; rw [hn0])
  have HN0 := Lib.hid hn0
  clear hn0
  by_cases c0' : (n0 : Int) ≤ left
  · skip
    have e0 : szRes (left) n0 = left - (n0 : Nat) := if_pos (by omega)
    go_enter Try.func8, Try.ntmps8
    go_wp2_with (first
      | (go_at_call 31; (with_reducible refine (szView_l (x := x.View) (Ty.up _ h4 (by repeat (first | with_reducible exact Gro.refl _ | with_reducible exact Gro.refl_drew _ _ _ | with_reducible exact Gro.refl_drewN _ _ _ _ | assumption | with_reducible apply Gro.more | with_reducible apply Gro.alloc | with_reducible apply Gro.drew | with_reducible apply Gro.drewN))) (by omega) (by omega)).mono ?_); rintro e w0 ⟨rfl, os0, d0, rfl⟩; rw [HN0.out]))
    go_ret
    exact ⟨ret_int (by rw [HS.out]; unfold szRes; rw [if_pos (by omega)] <;> omega), (by repeat (first | with_reducible exact Gro.refl _ | with_reducible exact Gro.refl_drew _ _ _ | with_reducible exact Gro.refl_drewN _ _ _ _ | assumption | with_reducible apply Gro.more | with_reducible apply Gro.alloc | with_reducible apply Gro.drew | with_reducible apply Gro.drewN))⟩
  · have e0 : szRes (left) n0 = -1 := if_neg (by omega)
    go_enter Try.func8, Try.ntmps8
    go_wp2_with (first
      | (go_at_call 31; (with_reducible refine (szView_l (x := x.View) (Ty.up _ h4 (by repeat (first | with_reducible exact Gro.refl _ | with_reducible exact Gro.refl_drew _ _ _ | with_reducible exact Gro.refl_drewN _ _ _ _ | assumption | with_reducible apply Gro.more | with_reducible apply Gro.alloc | with_reducible apply Gro.drew | with_reducible apply Gro.drewN))) (by omega) (by omega)).mono ?_); rintro e w0 ⟨rfl, os0, d0, rfl⟩; rw [HN0.out]))
    go_ret
    exact ⟨ret_int (by rw [HS.out]; unfold szRes; rw [if_neg (by omega)]), (by repeat (first | with_reducible exact Gro.refl _ | with_reducible exact Gro.refl_drew _ _ _ | with_reducible exact Gro.refl_drewN _ _ _ _ | assumption | with_reducible apply Gro.more | with_reducible apply Gro.alloc | with_reducible apply Gro.drew | with_reducible apply Gro.drewN))⟩
set_option maxRecDepth 100000 in
theorem eqSample_l {x y : DSample} {w : World} {A0 : Option Addr} {c0 : Nat} {B0 : Option Addr} {d0 : Nat} (h4 : (intT.sl 3).R w w.heap.size [.slice A0 x.View.Words.length c0] x.View.Words) (k4 : (intT.sl 3).R w w.heap.size [.slice B0 y.View.Words.length d0] y.View.Words) : Calls Try.prog 12 #[.agg #[.int .i64 x.Thread, .int .i64 x.View.Pc, .int .i64 x.View.Sp, .int .i64 x.View.Fp, .slice A0 x.View.Words.length c0], .agg #[.int .i64 y.Thread, .int .i64 y.View.Pc, .int .i64 y.View.Sp, .int .i64 y.View.Fp, .slice B0 y.View.Words.length d0]] w fun e w' => e = .returned (.bool (decide (x = y))) ∧ Gro w w' := by
  go_enter Try.func12, Try.ntmps12
  go_wp2_with (first
      | (go_at_call 39; (with_reducible refine (eqView_l (x := x.View) (y := y.View) (Ty.up _ h4 (by repeat (first | with_reducible exact Gro.refl _ | with_reducible exact Gro.refl_drew _ _ _ | with_reducible exact Gro.refl_drewN _ _ _ _ | assumption | with_reducible apply Gro.more | with_reducible apply Gro.alloc | with_reducible apply Gro.drew | with_reducible apply Gro.drewN))) (Ty.up _ k4 (by repeat (first | with_reducible exact Gro.refl _ | with_reducible exact Gro.refl_drew _ _ _ | with_reducible exact Gro.refl_drewN _ _ _ _ | assumption | with_reducible apply Gro.more | with_reducible apply Gro.alloc | with_reducible apply Gro.drew | with_reducible apply Gro.drewN)))).mono ?_); rintro e w1 ⟨rfl, os1, d1, rfl⟩))
  all_goals
    go_ret
    refine ⟨ret_bool ?_, (by repeat (first | with_reducible exact Gro.refl _ | with_reducible exact Gro.refl_drew _ _ _ | with_reducible exact Gro.refl_drewN _ _ _ _ | assumption | with_reducible apply Gro.more | with_reducible apply Gro.alloc | with_reducible apply Gro.drew | with_reducible apply Gro.drewN))⟩
    simp_all [eq_DSample]
def cntSample (x : DSample) : Nat := cntView x.View
def mkSample (x : DSample) (k : Int) : DSample := { x with View := mkView x.View k }
set_option maxRecDepth 100000 in
theorem markSample_l {x : DSample} {w : World} {k : Int} {S : List Nat} {A0 : Option Addr} {c0 : Nat} (hO : tSample.O w [.int .i64 x.Thread, .int .i64 x.View.Pc, .int .i64 x.View.Sp, .int .i64 x.View.Fp, .slice A0 x.View.Words.length c0] x S) (hS : S.Nodup) (h00 : 0 < k) (h01 : k + (cntSample x : Nat) ≤ 1099511627776) : Calls Try.prog 15 #[.agg #[.int .i64 x.Thread, .int .i64 x.View.Pc, .int .i64 x.View.Sp, .int .i64 x.View.Fp, .slice A0 x.View.Words.length c0], .int .i64 k] w fun e w' => e = .returned (.int .i64 (k + (cntSample x : Nat))) ∧ tSample.O w' [.int .i64 x.Thread, .int .i64 x.View.Pc, .int .i64 x.View.Sp, .int .i64 x.View.Fp, .slice A0 x.View.Words.length c0] (mkSample x k) S ∧ OnlyS S w w' := by
  obtain ⟨A0', c0', S0, hcl, rfl, h0, h1, h2, h3, h4⟩ := tSample_O hO
  simp only [List.cons.injEq, Value.slice.injEq, true_and, and_true] at hcl
  obtain ⟨rfl, rfl⟩ := hcl
  have hlt := Ty.ltO _ hO
  unfold cntSample at h01 ⊢
  have hN0 := hS
  have hO0 := (tView_mkO A0 c0 _ h1 h2 h3 h4)
  have hL0 := Ty.ltO _ hO0
  go_enter Try.func15, Try.ntmps15
  go_wp2_with (fail)
  refine (markView_l (x := x.View) (Ty.groO _ hO0 (by repeat (first | with_reducible exact Gro.refl _ | with_reducible exact Gro.refl_drew _ _ _ | with_reducible exact Gro.refl_drewN _ _ _ _ | assumption | with_reducible apply Gro.more | with_reducible apply Gro.alloc | with_reducible apply Gro.drew | with_reducible apply Gro.drewN))) hN0 (by omega) (by omega)).mono ?_
  rintro e w1 ⟨rfl, hM0, hs1⟩
  go_wp2
  go_ret
  refine ⟨ret_int (by push_cast; omega), ?_, ((Gro.only (by repeat (first | with_reducible exact Gro.refl _ | with_reducible exact Gro.refl_drew _ _ _ | with_reducible exact Gro.refl_drewN _ _ _ _ | assumption | with_reducible apply Gro.more | with_reducible apply Gro.alloc | with_reducible apply Gro.drew | with_reducible apply Gro.drewN)) _).trans hs1)⟩
  have h := tSample_mkOd (w := w1) (x := mkSample x k) (by simpa [mkSample] using h0) (by simpa [mkSample, mkView, mkInts_length] using hM0)
  simpa [mkSample, mkView, mkInts_length] using h
theorem mkSample_read {x : DSample} {w : World} {k : Int} {S : List Nat} {A0 : Option Addr} {c0 : Nat} (hO : tSample.O w [.int .i64 x.Thread, .int .i64 x.View.Pc, .int .i64 x.View.Sp, .int .i64 x.View.Fp, .slice A0 x.View.Words.length c0] (mkSample x k) S) : (intT.sl 3).R w w.heap.size [.slice A0 x.View.Words.length c0] (mkSample x k).View.Words := by
  obtain ⟨A0', c0', S0, hcl, rfl, h0, h1, h2, h3, h4⟩ := tSample_O hO
  simp only [List.cons.injEq, Value.slice.injEq, true_and, and_true] at hcl
  have eh4 : (mkSample x k).View.Words.length = x.View.Words.length := by simp [mkSample, mkView, mkInts_length]
  have es0 : (mkSample x k).Thread = x.Thread := by first | rfl | simp [mkSample, mkView, mkInts_length]
  have es1 : (mkSample x k).View.Pc = x.View.Pc := by first | rfl | simp [mkSample, mkView, mkInts_length]
  have es2 : (mkSample x k).View.Sp = x.View.Sp := by first | rfl | simp [mkSample, mkView, mkInts_length]
  have es3 : (mkSample x k).View.Fp = x.View.Fp := by first | rfl | simp [mkSample, mkView, mkInts_length]
  simp only [eh4, es0, es1, es2, es3, true_and, and_true] at hcl
  obtain ⟨rfl, rfl⟩ := hcl
  rw [eh4] at h4
  exact Ty.read _ h4
set_option maxRecDepth 100000 in
theorem heldSample_l {x : DSample} {w : World} {k : Int} {A0 : Option Addr} {c0 : Nat} (h0 : (intT.sl 3).R w w.heap.size [.slice A0 x.View.Words.length c0] (mkSample x k).View.Words) (h00 : 0 < k) (h01 : k + (cntSample x : Nat) ≤ 1099511627776) : Calls Try.prog 16 #[.agg #[.int .i64 x.Thread, .int .i64 x.View.Pc, .int .i64 x.View.Sp, .int .i64 x.View.Fp, .slice A0 x.View.Words.length c0], .int .i64 k] w fun e w' => e = .returned (.int .i64 (k + (cntSample x : Nat))) ∧ Gro w w' := by
  unfold cntSample at h01 ⊢
  go_enter Try.func16, Try.ntmps16
  go_wp2_with (fail)
  refine (heldView_l (x := x.View) (Ty.up _ h0 (by repeat (first | with_reducible exact Gro.refl _ | with_reducible exact Gro.refl_drew _ _ _ | with_reducible exact Gro.refl_drewN _ _ _ _ | assumption | with_reducible apply Gro.more | with_reducible apply Gro.alloc | with_reducible apply Gro.drew | with_reducible apply Gro.drewN))) (by omega) (by omega)).mono ?_
  rintro e w1 ⟨rfl, os1, d1, rfl⟩
  go_wp2
  go_ret
  exact ⟨ret_int (by push_cast; omega), (by repeat (first | with_reducible exact Gro.refl _ | with_reducible exact Gro.refl_drew _ _ _ | with_reducible exact Gro.refl_drewN _ _ _ _ | assumption | with_reducible apply Gro.more | with_reducible apply Gro.alloc | with_reducible apply Gro.drew | with_reducible apply Gro.drewN))⟩
end Go.Proofs.Ytemeenondbdioaa
