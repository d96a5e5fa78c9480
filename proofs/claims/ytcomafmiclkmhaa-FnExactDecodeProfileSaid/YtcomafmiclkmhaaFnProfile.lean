/-
  STRUCTS, written by a program (genfun.py): Stacks, Profile: the laws' own toX, szX, eqX.
-/
import Derived.Test.YtcomafmiclkmhaaLsFrame
set_option linter.unusedVariables false
set_option linter.unusedSimpArgs false
namespace Go.Proofs.Ytcomafmiclkmhaa
open Go.RowKit
def RetStacks (x : DStacks) (w : World) (r : Ending) (w' : World) : Prop := ∃ A0 c0, r = .returned (.agg #[.slice A0 x.Nodes.length c0]) ∧ Fresh tStacks w w' [.slice A0 x.Nodes.length c0] x ∧ Gro w w'
theorem tStacks_mkOd {w : World} {x : DStacks} {A0 : Option Addr} {c0 : Nat} {S0 : List Nat} (h0 : (tNode.sl 41).O w [.slice A0 x.Nodes.length c0] x.Nodes S0) : tStacks.O w [.slice A0 x.Nodes.length c0] x (S0) := by
  have h : tStacks.O w [.slice A0 x.Nodes.length c0] x S0 := h0
  exact h
theorem tStacks_fresh {w W : World} {x : DStacks} {A0 : Option Addr} {c0 : Nat} {u0 : World} {m0 : Nat} (h0 : Fre (tNode.sl 41) u0 m0 W [.slice A0 x.Nodes.length c0] x.Nodes) (hw0 : w.heap.size ≤ u0.heap.size) : Fresh tStacks w W [.slice A0 x.Nodes.length c0] x := by
  obtain ⟨S0, hO0, hN0, hI0⟩ := h0
  exact ⟨_, tStacks_mkOd hO0, hN0, fun b hb => (by have := hI0 b hb; omega)⟩
theorem eq_DStacks {x y : DStacks} : x = y ↔ x.Nodes = y.Nodes := by
  cases x
  cases y
  simp
def szStacks (x : DStacks) : Nat := szL szNode x.Nodes
set_option maxRecDepth 100000 in
theorem eqStacks_l {x y : DStacks} {w : World} {A0 : Option Addr} {c0 : Nat} {B0 : Option Addr} {d0 : Nat} (h0 : (tNode.sl 41).R w w.heap.size [.slice A0 x.Nodes.length c0] x.Nodes) (k0 : (tNode.sl 41).R w w.heap.size [.slice B0 y.Nodes.length d0] y.Nodes) : Calls Try.prog 15 #[.agg #[.slice A0 x.Nodes.length c0], .agg #[.slice B0 y.Nodes.length d0]] w fun e w' => e = .returned (.bool (decide (x = y))) ∧ Gro w w' := by
  go_enter Try.func15, Try.ntmps15
  go_wp2_with (first
      | (go_at_call 34; (with_reducible refine (eqNodeS_l (xs := x.Nodes) (ys := y.Nodes) (Ty.up _ h0 (by repeat (first | with_reducible exact Gro.refl _ | with_reducible exact Gro.refl_drew _ _ _ | with_reducible exact Gro.refl_drewN _ _ _ _ | assumption | with_reducible apply Gro.more | with_reducible apply Gro.alloc | with_reducible apply Gro.drew | with_reducible apply Gro.drewN))) (Ty.up _ k0 (by repeat (first | with_reducible exact Gro.refl _ | with_reducible exact Gro.refl_drew _ _ _ | with_reducible exact Gro.refl_drewN _ _ _ _ | assumption | with_reducible apply Gro.more | with_reducible apply Gro.alloc | with_reducible apply Gro.drew | with_reducible apply Gro.drewN)))).mono ?_); rintro e w0 ⟨rfl, os0, d0, rfl⟩))
  all_goals
    go_ret
    refine ⟨ret_bool ?_, (by repeat (first | with_reducible exact Gro.refl _ | with_reducible exact Gro.refl_drew _ _ _ | with_reducible exact Gro.refl_drewN _ _ _ _ | assumption | with_reducible apply Gro.more | with_reducible apply Gro.alloc | with_reducible apply Gro.drew | with_reducible apply Gro.drewN))⟩
    simp_all [eq_DStacks]
def cntStacks (x : DStacks) : Nat := cntNodeS x.Nodes
def mkStacks (x : DStacks) (k : Int) : DStacks := { x with Nodes := mkNodeS x.Nodes k }
set_option maxRecDepth 100000 in
theorem markStacks_l {x : DStacks} {w : World} {k : Int} {S : List Nat} {A0 : Option Addr} {c0 : Nat} (hO : tStacks.O w [.slice A0 x.Nodes.length c0] x S) (hS : S.Nodup) (h00 : 0 < k) (h01 : k + (cntStacks x : Nat) ≤ 1099511627776) : Calls Try.prog 17 #[.agg #[.slice A0 x.Nodes.length c0], .int .i64 k] w fun e w' => e = .returned (.int .i64 (k + (cntStacks x : Nat))) ∧ tStacks.O w' [.slice A0 x.Nodes.length c0] (mkStacks x k) S ∧ OnlyS S w w' := by
  obtain ⟨A0', c0', S0, hcl, rfl, h0⟩ := tStacks_O hO
  simp only [List.cons.injEq, Value.slice.injEq, true_and, and_true] at hcl
  obtain ⟨rfl, rfl⟩ := hcl
  have hlt := Ty.ltO _ hO
  unfold cntStacks at h01 ⊢
  have hN0 := hS
  have hO0 := h0
  have hL0 := Ty.ltO _ hO0
  go_enter Try.func17, Try.ntmps17
  go_wp2_with (fail)
  refine (markNodeS_l (xs := x.Nodes) (Ty.groO _ hO0 (by repeat (first | with_reducible exact Gro.refl _ | with_reducible exact Gro.refl_drew _ _ _ | with_reducible exact Gro.refl_drewN _ _ _ _ | assumption | with_reducible apply Gro.more | with_reducible apply Gro.alloc | with_reducible apply Gro.drew | with_reducible apply Gro.drewN))) hN0 (by omega) (by omega)).mono ?_
  rintro e w1 ⟨rfl, hM0, hs1⟩
  go_wp2
  go_ret
  refine ⟨ret_int (by push_cast; omega), ?_, ((Gro.only (by repeat (first | with_reducible exact Gro.refl _ | with_reducible exact Gro.refl_drew _ _ _ | with_reducible exact Gro.refl_drewN _ _ _ _ | assumption | with_reducible apply Gro.more | with_reducible apply Gro.alloc | with_reducible apply Gro.drew | with_reducible apply Gro.drewN)) _).trans hs1)⟩
  have h := tStacks_mkOd (w := w1) (x := mkStacks x k) (by simpa [mkStacks, mkNodeS_length] using hM0)
  simpa [mkStacks, mkNodeS_length] using h
theorem mkStacks_read {x : DStacks} {w : World} {k : Int} {S : List Nat} {A0 : Option Addr} {c0 : Nat} (hO : tStacks.O w [.slice A0 x.Nodes.length c0] (mkStacks x k) S) : (tNode.sl 41).R w w.heap.size [.slice A0 x.Nodes.length c0] (mkStacks x k).Nodes := by
  obtain ⟨A0', c0', S0, hcl, rfl, h0⟩ := tStacks_O hO
  simp only [List.cons.injEq, Value.slice.injEq, true_and, and_true] at hcl
  have eh0 : (mkStacks x k).Nodes.length = x.Nodes.length := by simp [mkStacks, mkNodeS_length]
  simp only [eh0, true_and, and_true] at hcl
  obtain ⟨rfl, rfl⟩ := hcl
  rw [eh0] at h0
  exact Ty.read _ h0
set_option maxRecDepth 100000 in
theorem heldStacks_l {x : DStacks} {w : World} {k : Int} {A0 : Option Addr} {c0 : Nat} (h0 : (tNode.sl 41).R w w.heap.size [.slice A0 x.Nodes.length c0] (mkStacks x k).Nodes) (h00 : 0 < k) (h01 : k + (cntStacks x : Nat) ≤ 1099511627776) : Calls Try.prog 19 #[.agg #[.slice A0 x.Nodes.length c0], .int .i64 k] w fun e w' => e = .returned (.int .i64 (k + (cntStacks x : Nat))) ∧ Gro w w' := by
  unfold cntStacks at h01 ⊢
  go_enter Try.func19, Try.ntmps19
  go_wp2_with (fail)
  refine (heldNodeS_l (xs := x.Nodes) (Ty.up _ h0 (by repeat (first | with_reducible exact Gro.refl _ | with_reducible exact Gro.refl_drew _ _ _ | with_reducible exact Gro.refl_drewN _ _ _ _ | assumption | with_reducible apply Gro.more | with_reducible apply Gro.alloc | with_reducible apply Gro.drew | with_reducible apply Gro.drewN))) (by omega) (by omega)).mono ?_
  rintro e w1 ⟨rfl, os1, d1, rfl⟩
  go_wp2
  go_ret
  exact ⟨ret_int (by push_cast; omega), (by repeat (first | with_reducible exact Gro.refl _ | with_reducible exact Gro.refl_drew _ _ _ | with_reducible exact Gro.refl_drewN _ _ _ _ | assumption | with_reducible apply Gro.more | with_reducible apply Gro.alloc | with_reducible apply Gro.drew | with_reducible apply Gro.drewN))⟩
def RetProfile (x : DProfile) (w : World) (r : Ending) (w' : World) : Prop := ∃ A0 c0 A1 c1, r = .returned (.agg #[.slice A0 x.Stacks.Nodes.length c0, .slice A1 x.Counts.length c1]) ∧ Fresh tProfile w w' [.slice A0 x.Stacks.Nodes.length c0, .slice A1 x.Counts.length c1] x ∧ Gro w w'
theorem tProfile_mkOd {w : World} {x : DProfile} {A0 : Option Addr} {c0 : Nat} {A1 : Option Addr} {c1 : Nat} {S0 : List Nat} {S1 : List Nat} (h0 : tStacks.O w [.slice A0 x.Stacks.Nodes.length c0] x.Stacks S0) (h1 : (intT.sl 3).O w [.slice A1 x.Counts.length c1] x.Counts S1) : tProfile.O w [.slice A0 x.Stacks.Nodes.length c0, .slice A1 x.Counts.length c1] x (S0 ++ S1) := by
  have h : tProfile.O w [.slice A0 x.Stacks.Nodes.length c0, .slice A1 x.Counts.length c1] x (S0 ++ S1) := ⟨[.slice A0 x.Stacks.Nodes.length c0], [.slice A1 x.Counts.length c1], S0, S1, rfl, rfl, h0, h1⟩
  exact h
theorem tProfile_fresh {w W : World} {x : DProfile} {A0 : Option Addr} {c0 : Nat} {A1 : Option Addr} {c1 : Nat} {u0 u1 : World} {m0 m1 : Nat} (h0 : Fre tStacks u0 m0 W [.slice A0 x.Stacks.Nodes.length c0] x.Stacks) (h1 : Fre (intT.sl 3) u1 m1 W [.slice A1 x.Counts.length c1] x.Counts) (hw0 : w.heap.size ≤ u0.heap.size) (hw1 : w.heap.size ≤ u1.heap.size) (hd0_1 : m0 ≤ u1.heap.size ∨ m1 ≤ u0.heap.size) : Fresh tProfile w W [.slice A0 x.Stacks.Nodes.length c0, .slice A1 x.Counts.length c1] x := by
  obtain ⟨S0, hO0, hN0, hI0⟩ := h0
  obtain ⟨S1, hO1, hN1, hI1⟩ := h1
  exact ⟨_, tProfile_mkOd hO0 hO1, List.nodup_append.2 ⟨hN0, hN1, fun a ha b hb => (by have h1 := hI0 a ha; have h2 := hI1 b hb; omega)⟩, fun b hb => (List.mem_append.1 hb).elim (fun hb => (by have := hI0 b hb; omega)) (fun hb => (by have := hI1 b hb; omega))⟩
theorem eq_DProfile {x y : DProfile} : x = y ↔ x.Stacks = y.Stacks ∧ x.Counts = y.Counts := by
  cases x
  cases y
  simp
def szProfile (x : DProfile) : Nat := szStacks x.Stacks + x.Counts.length
set_option maxRecDepth 100000 in
theorem eqProfile_l {x y : DProfile} {w : World} {A0 : Option Addr} {c0 : Nat} {A1 : Option Addr} {c1 : Nat} {B0 : Option Addr} {d0 : Nat} {B1 : Option Addr} {d1 : Nat} (h0 : (tNode.sl 41).R w w.heap.size [.slice A0 x.Stacks.Nodes.length c0] x.Stacks.Nodes) (h1 : (intT.sl 3).R w w.heap.size [.slice A1 x.Counts.length c1] x.Counts) (k0 : (tNode.sl 41).R w w.heap.size [.slice B0 y.Stacks.Nodes.length d0] y.Stacks.Nodes) (k1 : (intT.sl 3).R w w.heap.size [.slice B1 y.Counts.length d1] y.Counts) : Calls Try.prog 6 #[.agg #[.slice A0 x.Stacks.Nodes.length c0, .slice A1 x.Counts.length c1], .agg #[.slice B0 y.Stacks.Nodes.length d0, .slice B1 y.Counts.length d1]] w fun e w' => e = .returned (.bool (decide (x = y))) ∧ Gro w w' := by
  go_enter Try.func6, Try.ntmps6
  go_wp2_with (first
      | (go_at_call 15; (with_reducible refine (eqStacks_l (x := x.Stacks) (y := y.Stacks) (Ty.up _ h0 (by repeat (first | with_reducible exact Gro.refl _ | with_reducible exact Gro.refl_drew _ _ _ | with_reducible exact Gro.refl_drewN _ _ _ _ | assumption | with_reducible apply Gro.more | with_reducible apply Gro.alloc | with_reducible apply Gro.drew | with_reducible apply Gro.drewN))) (Ty.up _ k0 (by repeat (first | with_reducible exact Gro.refl _ | with_reducible exact Gro.refl_drew _ _ _ | with_reducible exact Gro.refl_drewN _ _ _ _ | assumption | with_reducible apply Gro.more | with_reducible apply Gro.alloc | with_reducible apply Gro.drew | with_reducible apply Gro.drewN)))).mono ?_); rintro e w0 ⟨rfl, os0, d0, rfl⟩)
      | (go_at_call 16; (with_reducible refine (eqIntS_l (xs := x.Counts) (ys := y.Counts) (Ty.up _ h1 (by repeat (first | with_reducible exact Gro.refl _ | with_reducible exact Gro.refl_drew _ _ _ | with_reducible exact Gro.refl_drewN _ _ _ _ | assumption | with_reducible apply Gro.more | with_reducible apply Gro.alloc | with_reducible apply Gro.drew | with_reducible apply Gro.drewN))) (Ty.up _ k1 (by repeat (first | with_reducible exact Gro.refl _ | with_reducible exact Gro.refl_drew _ _ _ | with_reducible exact Gro.refl_drewN _ _ _ _ | assumption | with_reducible apply Gro.more | with_reducible apply Gro.alloc | with_reducible apply Gro.drew | with_reducible apply Gro.drewN)))).mono ?_); rintro e w1 ⟨rfl, os1, d1, rfl⟩))
  all_goals
    go_ret
    refine ⟨ret_bool ?_, (by repeat (first | with_reducible exact Gro.refl _ | with_reducible exact Gro.refl_drew _ _ _ | with_reducible exact Gro.refl_drewN _ _ _ _ | assumption | with_reducible apply Gro.more | with_reducible apply Gro.alloc | with_reducible apply Gro.drew | with_reducible apply Gro.drewN))⟩
    simp_all [eq_DProfile]
def cntProfile (x : DProfile) : Nat := cntStacks x.Stacks + x.Counts.length
def mkProfile (x : DProfile) (k : Int) : DProfile := { x with Stacks := mkStacks x.Stacks k, Counts := mkInts x.Counts (k + (cntStacks x.Stacks : Nat)) }
set_option maxRecDepth 100000 in
theorem markProfile_l {x : DProfile} {w : World} {k : Int} {S : List Nat} {A0 : Option Addr} {c0 : Nat} {A1 : Option Addr} {c1 : Nat} (hO : tProfile.O w [.slice A0 x.Stacks.Nodes.length c0, .slice A1 x.Counts.length c1] x S) (hS : S.Nodup) (h00 : 0 < k) (h01 : k + (cntProfile x : Nat) ≤ 1099511627776) : Calls Try.prog 7 #[.agg #[.slice A0 x.Stacks.Nodes.length c0, .slice A1 x.Counts.length c1], .int .i64 k] w fun e w' => e = .returned (.int .i64 (k + (cntProfile x : Nat))) ∧ tProfile.O w' [.slice A0 x.Stacks.Nodes.length c0, .slice A1 x.Counts.length c1] (mkProfile x k) S ∧ OnlyS S w w' := by
  obtain ⟨A0', c0', S0, A1', c1', S1, hcl, rfl, h0, h1⟩ := tProfile_O hO
  simp only [List.cons.injEq, Value.slice.injEq, true_and, and_true] at hcl
  obtain ⟨⟨rfl, rfl⟩, ⟨rfl, rfl⟩⟩ := hcl
  have hlt := Ty.ltO _ hO
  unfold cntProfile at h01 ⊢
  obtain ⟨hN0, hN1, hD01, hD10⟩ := nd2 hS
  have hO0 := (tStacks_mkO A0 c0 _ h0)
  have hL0 := Ty.ltO _ hO0
  have hO1 := h1
  have hL1 := Ty.ltO _ hO1
  go_enter Try.func7, Try.ntmps7
  go_wp2_with (fail)
  refine (markStacks_l (x := x.Stacks) (Ty.groO _ hO0 (by repeat (first | with_reducible exact Gro.refl _ | with_reducible exact Gro.refl_drew _ _ _ | with_reducible exact Gro.refl_drewN _ _ _ _ | assumption | with_reducible apply Gro.more | with_reducible apply Gro.alloc | with_reducible apply Gro.drew | with_reducible apply Gro.drewN))) hN0 (by omega) (by omega)).mono ?_
  rintro e w1 ⟨rfl, hM0, hs1⟩
  have hO1_0 := keepOnly _ hO1 hs1 (by repeat (first | with_reducible exact Gro.refl _ | with_reducible exact Gro.refl_drew _ _ _ | with_reducible exact Gro.refl_drewN _ _ _ _ | assumption | with_reducible apply Gro.more | with_reducible apply Gro.alloc | with_reducible apply Gro.drew | with_reducible apply Gro.drewN)) hD10
  have hc1_0 : w1.cell? ⟨w.heap.size, 0, none⟩ = some (.slice A0 x.Stacks.Nodes.length c0) := (hs1.cell (by simp) (fun hm => by have := hL0 _ hm; omega) 0).trans (by simp [go_sem])
  have hc1_1 : w1.cell? ⟨w.heap.size, 1, none⟩ = some (.slice A1 x.Counts.length c1) := (hs1.cell (by simp) (fun hm => by have := hL0 _ hm; omega) 1).trans (by simp [go_sem])
  have hcb1 : w.heap.size < w1.heap.size := Nat.lt_of_lt_of_le (by simp) hs1.size
  go_wp2_with (fail)
  refine (markIntS_l (xs := x.Counts) (Ty.groO _ hO1_0 (by repeat (first | with_reducible exact Gro.refl _ | with_reducible exact Gro.refl_drew _ _ _ | with_reducible exact Gro.refl_drewN _ _ _ _ | assumption | with_reducible apply Gro.more | with_reducible apply Gro.alloc | with_reducible apply Gro.drew | with_reducible apply Gro.drewN))) hN1 (by omega) (by omega)).mono ?_
  rintro e w2 ⟨rfl, hM1, hs2⟩
  have hM0_1 := keepOnly _ hM0 hs2 (by repeat (first | with_reducible exact Gro.refl _ | with_reducible exact Gro.refl_drew _ _ _ | with_reducible exact Gro.refl_drewN _ _ _ _ | assumption | with_reducible apply Gro.more | with_reducible apply Gro.alloc | with_reducible apply Gro.drew | with_reducible apply Gro.drewN)) hD01
  replace hM0 := hM0_1
  go_wp2
  go_ret
  refine ⟨ret_int (by push_cast; omega), ?_, (((Gro.only (by repeat (first | with_reducible exact Gro.refl _ | with_reducible exact Gro.refl_drew _ _ _ | with_reducible exact Gro.refl_drewN _ _ _ _ | assumption | with_reducible apply Gro.more | with_reducible apply Gro.alloc | with_reducible apply Gro.drew | with_reducible apply Gro.drewN)) _).trans (hs1.mono (fun b hb => by simp [hb]))).trans (hs2.mono (fun b hb => by simp [hb])))⟩
  have h := tProfile_mkOd (w := w2) (x := mkProfile x k) (by simpa [mkProfile, mkStacks, mkNodeS_length, mkInts_length] using hM0) (by simpa [mkProfile, mkStacks, mkNodeS_length, mkInts_length] using hM1)
  simpa [mkProfile, mkStacks, mkNodeS_length, mkInts_length] using h
theorem mkProfile_read {x : DProfile} {w : World} {k : Int} {S : List Nat} {A0 : Option Addr} {c0 : Nat} {A1 : Option Addr} {c1 : Nat} (hO : tProfile.O w [.slice A0 x.Stacks.Nodes.length c0, .slice A1 x.Counts.length c1] (mkProfile x k) S) : (tNode.sl 41).R w w.heap.size [.slice A0 x.Stacks.Nodes.length c0] (mkProfile x k).Stacks.Nodes ∧ (intT.sl 3).R w w.heap.size [.slice A1 x.Counts.length c1] (mkProfile x k).Counts := by
  obtain ⟨A0', c0', S0, A1', c1', S1, hcl, rfl, h0, h1⟩ := tProfile_O hO
  simp only [List.cons.injEq, Value.slice.injEq, true_and, and_true] at hcl
  have eh0 : (mkProfile x k).Stacks.Nodes.length = x.Stacks.Nodes.length := by simp [mkProfile, mkStacks, mkNodeS_length, mkInts_length]
  have eh1 : (mkProfile x k).Counts.length = x.Counts.length := by simp [mkProfile, mkStacks, mkNodeS_length, mkInts_length]
  simp only [eh0, eh1, true_and, and_true] at hcl
  obtain ⟨⟨rfl, rfl⟩, ⟨rfl, rfl⟩⟩ := hcl
  rw [eh0] at h0
  rw [eh1] at h1
  exact ⟨Ty.read _ h0, Ty.read _ h1⟩
set_option maxRecDepth 100000 in
theorem heldProfile_l {x : DProfile} {w : World} {k : Int} {A0 : Option Addr} {c0 : Nat} {A1 : Option Addr} {c1 : Nat} (h0 : (tNode.sl 41).R w w.heap.size [.slice A0 x.Stacks.Nodes.length c0] (mkProfile x k).Stacks.Nodes) (h1 : (intT.sl 3).R w w.heap.size [.slice A1 x.Counts.length c1] (mkProfile x k).Counts) (h00 : 0 < k) (h01 : k + (cntProfile x : Nat) ≤ 1099511627776) : Calls Try.prog 8 #[.agg #[.slice A0 x.Stacks.Nodes.length c0, .slice A1 x.Counts.length c1], .int .i64 k] w fun e w' => e = .returned (.int .i64 (k + (cntProfile x : Nat))) ∧ Gro w w' := by
  unfold cntProfile at h01 ⊢
  go_enter Try.func8, Try.ntmps8
  go_wp2_with (fail)
  refine (heldStacks_l (x := x.Stacks) (Ty.up _ h0 (by repeat (first | with_reducible exact Gro.refl _ | with_reducible exact Gro.refl_drew _ _ _ | with_reducible exact Gro.refl_drewN _ _ _ _ | assumption | with_reducible apply Gro.more | with_reducible apply Gro.alloc | with_reducible apply Gro.drew | with_reducible apply Gro.drewN))) (by omega) (by omega)).mono ?_
  rintro e w1 ⟨rfl, os1, d1, rfl⟩
  go_wp2_with (fail)
  refine (heldIntS_l (xs := x.Counts) (Nat.le_refl _) (Ty.up _ h1 (by repeat (first | with_reducible exact Gro.refl _ | with_reducible exact Gro.refl_drew _ _ _ | with_reducible exact Gro.refl_drewN _ _ _ _ | assumption | with_reducible apply Gro.more | with_reducible apply Gro.alloc | with_reducible apply Gro.drew | with_reducible apply Gro.drewN))) (by omega) (by omega)).mono ?_
  rintro e w2 ⟨rfl, os2, d2, rfl⟩
  go_wp2
  go_ret
  exact ⟨ret_int (by push_cast; omega), (by repeat (first | with_reducible exact Gro.refl _ | with_reducible exact Gro.refl_drew _ _ _ | with_reducible exact Gro.refl_drewN _ _ _ _ | assumption | with_reducible apply Gro.more | with_reducible apply Gro.alloc | with_reducible apply Gro.drew | with_reducible apply Gro.drewN))⟩
end Go.Proofs.Ytcomafmiclkmhaa
