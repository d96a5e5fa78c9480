/-
  STRUCTS, written by a program (genfun.py): View, Sample: the laws' own toX, szX, eqX.
-/
import Derived.Test.YtfhcegblnhagjaaLists
import Derived.Test.YtfhcegblnhagjaaTySample
set_option linter.unusedVariables false
set_option linter.unusedSimpArgs false
namespace Go.Proofs.Ytfhcegblnhagjaa
open Go.RowKit
def RetView (x : DView) (w : World) (r : Ending) (w' : World) : Prop := ∃ A0 c0, r = .returned (.agg #[.int .i64 x.Pc, .int .i64 x.Sp, .int .i64 x.Fp, .slice A0 x.Words.length c0]) ∧ Fresh tView w w' [.int .i64 x.Pc, .int .i64 x.Sp, .int .i64 x.Fp, .slice A0 x.Words.length c0] x ∧ Gro w w'
theorem tView_mkOd {w : World} {x : DView} {A0 : Option Addr} {c0 : Nat} {S3 : List Nat} (h0 : I64 x.Pc) (h1 : I64 x.Sp) (h2 : I64 x.Fp) (h3 : (intT.sl 3).O w [.slice A0 x.Words.length c0] x.Words S3) : tView.O w [.int .i64 x.Pc, .int .i64 x.Sp, .int .i64 x.Fp, .slice A0 x.Words.length c0] x (S3) := by
  have h : tView.O w [.int .i64 x.Pc, .int .i64 x.Sp, .int .i64 x.Fp, .slice A0 x.Words.length c0] x ([] ++ ([] ++ ([] ++ S3))) := ⟨[.int .i64 x.Pc], [.int .i64 x.Sp, .int .i64 x.Fp, .slice A0 x.Words.length c0], [], ([] ++ ([] ++ S3)), rfl, rfl, ⟨rfl, h0.1, h0.2, rfl⟩, ⟨[.int .i64 x.Sp], [.int .i64 x.Fp, .slice A0 x.Words.length c0], [], ([] ++ S3), rfl, rfl, ⟨rfl, h1.1, h1.2, rfl⟩, ⟨[.int .i64 x.Fp], [.slice A0 x.Words.length c0], [], S3, rfl, rfl, ⟨rfl, h2.1, h2.2, rfl⟩, h3⟩⟩⟩
  simpa using h
theorem tView_fresh {w W : World} {x : DView} {A0 : Option Addr} {c0 : Nat} {u3 : World} {m3 : Nat} (h0 : I64 x.Pc) (h1 : I64 x.Sp) (h2 : I64 x.Fp) (h3 : Fre (intT.sl 3) u3 m3 W [.slice A0 x.Words.length c0] x.Words) (hw3 : w.heap.size ≤ u3.heap.size) : Fresh tView w W [.int .i64 x.Pc, .int .i64 x.Sp, .int .i64 x.Fp, .slice A0 x.Words.length c0] x := by
  obtain ⟨S3, hO3, hN3, hI3⟩ := h3
  exact ⟨_, tView_mkOd h0 h1 h2 hO3, hN3, fun b hb => (by have := hI3 b hb; omega)⟩
theorem eq_DView {x y : DView} : x = y ↔ x.Pc = y.Pc ∧ x.Sp = y.Sp ∧ x.Fp = y.Fp ∧ x.Words = y.Words := by
  cases x
  cases y
  simp
def szView (x : DView) : Nat := x.Words.length
set_option maxRecDepth 100000 in
theorem eqView_l {x y : DView} {w : World} {A0 : Option Addr} {c0 : Nat} {B0 : Option Addr} {d0 : Nat} (h3 : (intT.sl 3).R w w.heap.size [.slice A0 x.Words.length c0] x.Words) (k3 : (intT.sl 3).R w w.heap.size [.slice B0 y.Words.length d0] y.Words) : Calls Try.prog 68 #[.agg #[.int .i64 x.Pc, .int .i64 x.Sp, .int .i64 x.Fp, .slice A0 x.Words.length c0], .agg #[.int .i64 y.Pc, .int .i64 y.Sp, .int .i64 y.Fp, .slice B0 y.Words.length d0]] w fun e w' => e = .returned (.bool (decide (x = y))) ∧ Gro w w' := by
  go_enter Try.func68, Try.ntmps68
  go_wp2_with (first
      | (go_at_call 34; (with_reducible refine (eqIntS_l (xs := x.Words) (ys := y.Words) (Ty.up _ h3 (by repeat (first | with_reducible exact Gro.refl _ | with_reducible exact Gro.refl_drew _ _ _ | with_reducible exact Gro.refl_drewN _ _ _ _ | assumption | with_reducible apply Gro.more | with_reducible apply Gro.alloc | with_reducible apply Gro.drew | with_reducible apply Gro.drewN))) (Ty.up _ k3 (by repeat (first | with_reducible exact Gro.refl _ | with_reducible exact Gro.refl_drew _ _ _ | with_reducible exact Gro.refl_drewN _ _ _ _ | assumption | with_reducible apply Gro.more | with_reducible apply Gro.alloc | with_reducible apply Gro.drew | with_reducible apply Gro.drewN)))).mono ?_); rintro e w3 ⟨rfl, os3, d3, rfl⟩))
  all_goals
    go_ret
    refine ⟨ret_bool ?_, (by repeat (first | with_reducible exact Gro.refl _ | with_reducible exact Gro.refl_drew _ _ _ | with_reducible exact Gro.refl_drewN _ _ _ _ | assumption | with_reducible apply Gro.more | with_reducible apply Gro.alloc | with_reducible apply Gro.drew | with_reducible apply Gro.drewN))⟩
    simp_all [eq_DView]
def cntView (x : DView) : Nat := x.Words.length
def mkView (x : DView) (k : Int) : DView := { x with Words := mkInts x.Words k }
set_option maxRecDepth 100000 in
theorem markView_l {x : DView} {w : World} {k : Int} {S : List Nat} {A0 : Option Addr} {c0 : Nat} (hO : tView.O w [.int .i64 x.Pc, .int .i64 x.Sp, .int .i64 x.Fp, .slice A0 x.Words.length c0] x S) (hS : S.Nodup) (h00 : 0 < k) (h01 : k + (cntView x : Nat) ≤ 1099511627776) : Calls Try.prog 69 #[.agg #[.int .i64 x.Pc, .int .i64 x.Sp, .int .i64 x.Fp, .slice A0 x.Words.length c0], .int .i64 k] w fun e w' => e = .returned (.int .i64 (k + (cntView x : Nat))) ∧ tView.O w' [.int .i64 x.Pc, .int .i64 x.Sp, .int .i64 x.Fp, .slice A0 x.Words.length c0] (mkView x k) S ∧ OnlyS S w w' := by
  obtain ⟨A0', c0', S0, hcl, rfl, h0, h1, h2, h3⟩ := tView_O hO
  simp only [List.cons.injEq, Value.slice.injEq, true_and, and_true] at hcl
  obtain ⟨rfl, rfl⟩ := hcl
  have hlt := Ty.ltO _ hO
  unfold cntView at h01 ⊢
  have hN0 := hS
  have hO0 := h3
  have hL0 := Ty.ltO _ hO0
  go_enter Try.func69, Try.ntmps69
  go_wp2_with (fail)
  refine (markIntS_l (xs := x.Words) (Ty.groO _ hO0 (by repeat (first | with_reducible exact Gro.refl _ | with_reducible exact Gro.refl_drew _ _ _ | with_reducible exact Gro.refl_drewN _ _ _ _ | assumption | with_reducible apply Gro.more | with_reducible apply Gro.alloc | with_reducible apply Gro.drew | with_reducible apply Gro.drewN))) hN0 (by omega) (by omega)).mono ?_
  rintro e w1 ⟨rfl, hM0, hs1⟩
  go_wp2
  go_ret
  refine ⟨ret_int (by push_cast; omega), ?_, ((Gro.only (by repeat (first | with_reducible exact Gro.refl _ | with_reducible exact Gro.refl_drew _ _ _ | with_reducible exact Gro.refl_drewN _ _ _ _ | assumption | with_reducible apply Gro.more | with_reducible apply Gro.alloc | with_reducible apply Gro.drew | with_reducible apply Gro.drewN)) _).trans hs1)⟩
  have h := tView_mkOd (w := w1) (x := mkView x k) (by simpa [mkView] using h0) (by simpa [mkView] using h1) (by simpa [mkView] using h2) (by simpa [mkView, mkInts_length] using hM0)
  simpa [mkView, mkInts_length] using h
theorem mkView_read {x : DView} {w : World} {k : Int} {S : List Nat} {A0 : Option Addr} {c0 : Nat} (hO : tView.O w [.int .i64 x.Pc, .int .i64 x.Sp, .int .i64 x.Fp, .slice A0 x.Words.length c0] (mkView x k) S) : (intT.sl 3).R w w.heap.size [.slice A0 x.Words.length c0] (mkView x k).Words := by
  obtain ⟨A0', c0', S0, hcl, rfl, h0, h1, h2, h3⟩ := tView_O hO
  simp only [List.cons.injEq, Value.slice.injEq, true_and, and_true] at hcl
  have eh3 : (mkView x k).Words.length = x.Words.length := by simp [mkView, mkInts_length]
  have es0 : (mkView x k).Pc = x.Pc := by first | rfl | simp [mkView, mkInts_length]
  have es1 : (mkView x k).Sp = x.Sp := by first | rfl | simp [mkView, mkInts_length]
  have es2 : (mkView x k).Fp = x.Fp := by first | rfl | simp [mkView, mkInts_length]
  simp only [eh3, es0, es1, es2, true_and, and_true] at hcl
  obtain ⟨rfl, rfl⟩ := hcl
  rw [eh3] at h3
  exact Ty.read _ h3
set_option maxRecDepth 100000 in
theorem heldView_l {x : DView} {w : World} {k : Int} {A0 : Option Addr} {c0 : Nat} (h0 : (intT.sl 3).R w w.heap.size [.slice A0 x.Words.length c0] (mkView x k).Words) (h00 : 0 < k) (h01 : k + (cntView x : Nat) ≤ 1099511627776) : Calls Try.prog 70 #[.agg #[.int .i64 x.Pc, .int .i64 x.Sp, .int .i64 x.Fp, .slice A0 x.Words.length c0], .int .i64 k] w fun e w' => e = .returned (.int .i64 (k + (cntView x : Nat))) ∧ Gro w w' := by
  unfold cntView at h01 ⊢
  go_enter Try.func70, Try.ntmps70
  go_wp2_with (fail)
  refine (heldIntS_l (xs := x.Words) (Nat.le_refl _) (Ty.up _ h0 (by repeat (first | with_reducible exact Gro.refl _ | with_reducible exact Gro.refl_drew _ _ _ | with_reducible exact Gro.refl_drewN _ _ _ _ | assumption | with_reducible apply Gro.more | with_reducible apply Gro.alloc | with_reducible apply Gro.drew | with_reducible apply Gro.drewN))) (by omega) (by omega)).mono ?_
  rintro e w1 ⟨rfl, os1, d1, rfl⟩
  go_wp2
  go_ret
  exact ⟨ret_int (by push_cast; omega), (by repeat (first | with_reducible exact Gro.refl _ | with_reducible exact Gro.refl_drew _ _ _ | with_reducible exact Gro.refl_drewN _ _ _ _ | assumption | with_reducible apply Gro.more | with_reducible apply Gro.alloc | with_reducible apply Gro.drew | with_reducible apply Gro.drewN))⟩
def RetSample (x : DSample) (w : World) (r : Ending) (w' : World) : Prop := ∃ A0 c0, r = .returned (.agg #[.int .i64 x.Thread, .int .i64 x.View.Pc, .int .i64 x.View.Sp, .int .i64 x.View.Fp, .slice A0 x.View.Words.length c0]) ∧ Fresh tSample w w' [.int .i64 x.Thread, .int .i64 x.View.Pc, .int .i64 x.View.Sp, .int .i64 x.View.Fp, .slice A0 x.View.Words.length c0] x ∧ Gro w w'
theorem tSample_mkOd {w : World} {x : DSample} {A0 : Option Addr} {c0 : Nat} {S1 : List Nat} (h0 : I64 x.Thread) (h1 : tView.O w [.int .i64 x.View.Pc, .int .i64 x.View.Sp, .int .i64 x.View.Fp, .slice A0 x.View.Words.length c0] x.View S1) : tSample.O w [.int .i64 x.Thread, .int .i64 x.View.Pc, .int .i64 x.View.Sp, .int .i64 x.View.Fp, .slice A0 x.View.Words.length c0] x (S1) := by
  have h : tSample.O w [.int .i64 x.Thread, .int .i64 x.View.Pc, .int .i64 x.View.Sp, .int .i64 x.View.Fp, .slice A0 x.View.Words.length c0] x ([] ++ S1) := ⟨[.int .i64 x.Thread], [.int .i64 x.View.Pc, .int .i64 x.View.Sp, .int .i64 x.View.Fp, .slice A0 x.View.Words.length c0], [], S1, rfl, rfl, ⟨rfl, h0.1, h0.2, rfl⟩, h1⟩
  simpa using h
theorem tSample_fresh {w W : World} {x : DSample} {A0 : Option Addr} {c0 : Nat} {u1 : World} {m1 : Nat} (h0 : I64 x.Thread) (h1 : Fre tView u1 m1 W [.int .i64 x.View.Pc, .int .i64 x.View.Sp, .int .i64 x.View.Fp, .slice A0 x.View.Words.length c0] x.View) (hw1 : w.heap.size ≤ u1.heap.size) : Fresh tSample w W [.int .i64 x.Thread, .int .i64 x.View.Pc, .int .i64 x.View.Sp, .int .i64 x.View.Fp, .slice A0 x.View.Words.length c0] x := by
  obtain ⟨S1, hO1, hN1, hI1⟩ := h1
  exact ⟨_, tSample_mkOd h0 hO1, hN1, fun b hb => (by have := hI1 b hb; omega)⟩
theorem eq_DSample {x y : DSample} : x = y ↔ x.Thread = y.Thread ∧ x.View = y.View := by
  cases x
  cases y
  simp
def szSample (x : DSample) : Nat := szView x.View
set_option maxRecDepth 100000 in
theorem eqSample_l {x y : DSample} {w : World} {A0 : Option Addr} {c0 : Nat} {B0 : Option Addr} {d0 : Nat} (h4 : (intT.sl 3).R w w.heap.size [.slice A0 x.View.Words.length c0] x.View.Words) (k4 : (intT.sl 3).R w w.heap.size [.slice B0 y.View.Words.length d0] y.View.Words) : Calls Try.prog 27 #[.agg #[.int .i64 x.Thread, .int .i64 x.View.Pc, .int .i64 x.View.Sp, .int .i64 x.View.Fp, .slice A0 x.View.Words.length c0], .agg #[.int .i64 y.Thread, .int .i64 y.View.Pc, .int .i64 y.View.Sp, .int .i64 y.View.Fp, .slice B0 y.View.Words.length d0]] w fun e w' => e = .returned (.bool (decide (x = y))) ∧ Gro w w' := by
  go_enter Try.func27, Try.ntmps27
  go_wp2_with (first
      | (go_at_call 68; (with_reducible refine (eqView_l (x := x.View) (y := y.View) (Ty.up _ h4 (by repeat (first | with_reducible exact Gro.refl _ | with_reducible exact Gro.refl_drew _ _ _ | with_reducible exact Gro.refl_drewN _ _ _ _ | assumption | with_reducible apply Gro.more | with_reducible apply Gro.alloc | with_reducible apply Gro.drew | with_reducible apply Gro.drewN))) (Ty.up _ k4 (by repeat (first | with_reducible exact Gro.refl _ | with_reducible exact Gro.refl_drew _ _ _ | with_reducible exact Gro.refl_drewN _ _ _ _ | assumption | with_reducible apply Gro.more | with_reducible apply Gro.alloc | with_reducible apply Gro.drew | with_reducible apply Gro.drewN)))).mono ?_); rintro e w1 ⟨rfl, os1, d1, rfl⟩))
  all_goals
    go_ret
    refine ⟨ret_bool ?_, (by repeat (first | with_reducible exact Gro.refl _ | with_reducible exact Gro.refl_drew _ _ _ | with_reducible exact Gro.refl_drewN _ _ _ _ | assumption | with_reducible apply Gro.more | with_reducible apply Gro.alloc | with_reducible apply Gro.drew | with_reducible apply Gro.drewN))⟩
    simp_all [eq_DSample]
def cntSample (x : DSample) : Nat := cntView x.View
def mkSample (x : DSample) (k : Int) : DSample := { x with View := mkView x.View k }
set_option maxRecDepth 100000 in
theorem markSample_l {x : DSample} {w : World} {k : Int} {S : List Nat} {A0 : Option Addr} {c0 : Nat} (hO : tSample.O w [.int .i64 x.Thread, .int .i64 x.View.Pc, .int .i64 x.View.Sp, .int .i64 x.View.Fp, .slice A0 x.View.Words.length c0] x S) (hS : S.Nodup) (h00 : 0 < k) (h01 : k + (cntSample x : Nat) ≤ 1099511627776) : Calls Try.prog 28 #[.agg #[.int .i64 x.Thread, .int .i64 x.View.Pc, .int .i64 x.View.Sp, .int .i64 x.View.Fp, .slice A0 x.View.Words.length c0], .int .i64 k] w fun e w' => e = .returned (.int .i64 (k + (cntSample x : Nat))) ∧ tSample.O w' [.int .i64 x.Thread, .int .i64 x.View.Pc, .int .i64 x.View.Sp, .int .i64 x.View.Fp, .slice A0 x.View.Words.length c0] (mkSample x k) S ∧ OnlyS S w w' := by
  obtain ⟨A0', c0', S0, hcl, rfl, h0, h1, h2, h3, h4⟩ := tSample_O hO
  simp only [List.cons.injEq, Value.slice.injEq, true_and, and_true] at hcl
  obtain ⟨rfl, rfl⟩ := hcl
  have hlt := Ty.ltO _ hO
  unfold cntSample at h01 ⊢
  have hN0 := hS
  have hO0 := (tView_mkO A0 c0 _ h1 h2 h3 h4)
  have hL0 := Ty.ltO _ hO0
  go_enter Try.func28, Try.ntmps28
  go_wp2_with (fail)
  refine (markView_l (x := x.View) (Ty.groO _ hO0 (by repeat (first | with_reducible exact Gro.refl _ | with_reducible exact Gro.refl_drew _ _ _ | with_reducible exact Gro.refl_drewN _ _ _ _ | assumption | with_reducible apply Gro.more | with_reducible apply Gro.alloc | with_reducible apply Gro.drew | with_reducible apply Gro.drewN))) hN0 (by omega) (by omega)).mono ?_
  rintro e w1 ⟨rfl, hM0, hs1⟩
  go_wp2
  go_ret
  refine ⟨ret_int (by push_cast; omega), ?_, ((Gro.only (by repeat (first | with_reducible exact Gro.refl _ | with_reducible exact Gro.refl_drew _ _ _ | with_reducible exact Gro.refl_drewN _ _ _ _ | assumption | with_reducible apply Gro.more | with_reducible apply Gro.alloc | with_reducible apply Gro.drew | with_reducible apply Gro.drewN)) _).trans hs1)⟩
  have h := tSample_mkOd (w := w1) (x := mkSample x k) (by simpa [mkSample] using h0) (by simpa [mkSample, mkView, mkInts_length] using hM0)
  simpa [mkSample, mkView, mkInts_length] using h
theorem mkSample_read {x : DSample} {w : World} {k : Int} {S : List Nat} {A0 : Option Addr} {c0 : Nat} (hO : tSample.O w [.int .i64 x.Thread, .int .i64 x.View.Pc, .int .i64 x.View.Sp, .int .i64 x.View.Fp, .slice A0 x.View.Words.length c0] (mkSample x k) S) : (intT.sl 3).R w w.heap.size [.slice A0 x.View.Words.length c0] (mkSample x k).View.Words := by
  obtain ⟨A0', c0', S0, hcl, rfl, h0, h1, h2, h3, h4⟩ := tSample_O hO
  simp only [List.cons.injEq, Value.slice.injEq, true_and, and_true] at hcl
  have eh4 : (mkSample x k).View.Words.length = x.View.Words.length := by simp [mkSample, mkView, mkInts_length]
  have es0 : (mkSample x k).Thread = x.Thread := by first | rfl | simp [mkSample, mkView, mkInts_length]
  have es1 : (mkSample x k).View.Pc = x.View.Pc := by first | rfl | simp [mkSample, mkView, mkInts_length]
  have es2 : (mkSample x k).View.Sp = x.View.Sp := by first | rfl | simp [mkSample, mkView, mkInts_length]
  have es3 : (mkSample x k).View.Fp = x.View.Fp := by first | rfl | simp [mkSample, mkView, mkInts_length]
  simp only [eh4, es0, es1, es2, es3, true_and, and_true] at hcl
  obtain ⟨rfl, rfl⟩ := hcl
  rw [eh4] at h4
  exact Ty.read _ h4
set_option maxRecDepth 100000 in
theorem heldSample_l {x : DSample} {w : World} {k : Int} {A0 : Option Addr} {c0 : Nat} (h0 : (intT.sl 3).R w w.heap.size [.slice A0 x.View.Words.length c0] (mkSample x k).View.Words) (h00 : 0 < k) (h01 : k + (cntSample x : Nat) ≤ 1099511627776) : Calls Try.prog 29 #[.agg #[.int .i64 x.Thread, .int .i64 x.View.Pc, .int .i64 x.View.Sp, .int .i64 x.View.Fp, .slice A0 x.View.Words.length c0], .int .i64 k] w fun e w' => e = .returned (.int .i64 (k + (cntSample x : Nat))) ∧ Gro w w' := by
  unfold cntSample at h01 ⊢
  go_enter Try.func29, Try.ntmps29
  go_wp2_with (fail)
  refine (heldView_l (x := x.View) (Ty.up _ h0 (by repeat (first | with_reducible exact Gro.refl _ | with_reducible exact Gro.refl_drew _ _ _ | with_reducible exact Gro.refl_drewN _ _ _ _ | assumption | with_reducible apply Gro.more | with_reducible apply Gro.alloc | with_reducible apply Gro.drew | with_reducible apply Gro.drewN))) (by omega) (by omega)).mono ?_
  rintro e w1 ⟨rfl, os1, d1, rfl⟩
  go_wp2
  go_ret
  exact ⟨ret_int (by push_cast; omega), (by repeat (first | with_reducible exact Gro.refl _ | with_reducible exact Gro.refl_drew _ _ _ | with_reducible exact Gro.refl_drewN _ _ _ _ | assumption | with_reducible apply Gro.more | with_reducible apply Gro.alloc | with_reducible apply Gro.drew | with_reducible apply Gro.drewN))⟩
end Go.Proofs.Ytfhcegblnhagjaa
