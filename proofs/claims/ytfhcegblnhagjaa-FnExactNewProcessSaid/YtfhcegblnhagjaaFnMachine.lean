/-
  STRUCTS, written by a program (genfun.py): Machine: the laws' own toX, szX, eqX.
-/
import Derived.Test.YtfhcegblnhagjaaTyProc
import Derived.Test.YtfhcegblnhagjaaLists
import Derived.Test.YtfhcegblnhagjaaRowsPut
set_option linter.unusedVariables false
set_option linter.unusedSimpArgs false
namespace Go.Proofs.Ytfhcegblnhagjaa
open Go.RowKit
def RetMachine (x : DMachine) (w : World) (r : Ending) (w' : World) : Prop := ∃ A0 c0 A1 c1, r = .returned (.agg #[.int .i64 x.Pc, .int .i64 x.Sp, .int .i64 x.Fp, .slice A0 x.Stack.length c0, .slice A1 x.Out.length c1, .int .i64 x.State, .int .i64 x.Value]) ∧ Fresh tMachine w w' [.int .i64 x.Pc, .int .i64 x.Sp, .int .i64 x.Fp, .slice A0 x.Stack.length c0, .slice A1 x.Out.length c1, .int .i64 x.State, .int .i64 x.Value] x ∧ Gro w w'
theorem tMachine_mkOd {w : World} {x : DMachine} {A0 : Option Addr} {c0 : Nat} {A1 : Option Addr} {c1 : Nat} {S3 : List Nat} {S4 : List Nat} (h0 : I64 x.Pc) (h1 : I64 x.Sp) (h2 : I64 x.Fp) (h3 : (intT.sl 3).O w [.slice A0 x.Stack.length c0] x.Stack S3) (h4 : (intT.sl 3).O w [.slice A1 x.Out.length c1] x.Out S4) (h5 : I64 x.State) (h6 : I64 x.Value) : tMachine.O w [.int .i64 x.Pc, .int .i64 x.Sp, .int .i64 x.Fp, .slice A0 x.Stack.length c0, .slice A1 x.Out.length c1, .int .i64 x.State, .int .i64 x.Value] x (S3 ++ S4) := by
  have h : tMachine.O w [.int .i64 x.Pc, .int .i64 x.Sp, .int .i64 x.Fp, .slice A0 x.Stack.length c0, .slice A1 x.Out.length c1, .int .i64 x.State, .int .i64 x.Value] x ([] ++ ([] ++ ([] ++ (S3 ++ (S4 ++ ([] ++ [])))))) := ⟨[.int .i64 x.Pc], [.int .i64 x.Sp, .int .i64 x.Fp, .slice A0 x.Stack.length c0, .slice A1 x.Out.length c1, .int .i64 x.State, .int .i64 x.Value], [], ([] ++ ([] ++ (S3 ++ (S4 ++ ([] ++ []))))), rfl, rfl, ⟨rfl, h0.1, h0.2, rfl⟩, ⟨[.int .i64 x.Sp], [.int .i64 x.Fp, .slice A0 x.Stack.length c0, .slice A1 x.Out.length c1, .int .i64 x.State, .int .i64 x.Value], [], ([] ++ (S3 ++ (S4 ++ ([] ++ [])))), rfl, rfl, ⟨rfl, h1.1, h1.2, rfl⟩, ⟨[.int .i64 x.Fp], [.slice A0 x.Stack.length c0, .slice A1 x.Out.length c1, .int .i64 x.State, .int .i64 x.Value], [], (S3 ++ (S4 ++ ([] ++ []))), rfl, rfl, ⟨rfl, h2.1, h2.2, rfl⟩, ⟨[.slice A0 x.Stack.length c0], [.slice A1 x.Out.length c1, .int .i64 x.State, .int .i64 x.Value], S3, (S4 ++ ([] ++ [])), rfl, rfl, h3, ⟨[.slice A1 x.Out.length c1], [.int .i64 x.State, .int .i64 x.Value], S4, ([] ++ []), rfl, rfl, h4, ⟨[.int .i64 x.State], [.int .i64 x.Value], [], [], rfl, rfl, ⟨rfl, h5.1, h5.2, rfl⟩, ⟨rfl, h6.1, h6.2, rfl⟩⟩⟩⟩⟩⟩⟩
  simpa using h
theorem tMachine_fresh {w W : World} {x : DMachine} {A0 : Option Addr} {c0 : Nat} {A1 : Option Addr} {c1 : Nat} {u3 u4 : World} {m3 m4 : Nat} (h0 : I64 x.Pc) (h1 : I64 x.Sp) (h2 : I64 x.Fp) (h3 : Fre (intT.sl 3) u3 m3 W [.slice A0 x.Stack.length c0] x.Stack) (h4 : Fre (intT.sl 3) u4 m4 W [.slice A1 x.Out.length c1] x.Out) (h5 : I64 x.State) (h6 : I64 x.Value) (hw3 : w.heap.size ≤ u3.heap.size) (hw4 : w.heap.size ≤ u4.heap.size) (hd3_4 : m3 ≤ u4.heap.size ∨ m4 ≤ u3.heap.size) : Fresh tMachine w W [.int .i64 x.Pc, .int .i64 x.Sp, .int .i64 x.Fp, .slice A0 x.Stack.length c0, .slice A1 x.Out.length c1, .int .i64 x.State, .int .i64 x.Value] x := by
  obtain ⟨S3, hO3, hN3, hI3⟩ := h3
  obtain ⟨S4, hO4, hN4, hI4⟩ := h4
  exact ⟨_, tMachine_mkOd h0 h1 h2 hO3 hO4 h5 h6, List.nodup_append.2 ⟨hN3, hN4, fun a ha b hb => (by have h1 := hI3 a ha; have h2 := hI4 b hb; omega)⟩, fun b hb => (List.mem_append.1 hb).elim (fun hb => (by have := hI3 b hb; omega)) (fun hb => (by have := hI4 b hb; omega))⟩
theorem eq_DMachine {x y : DMachine} : x = y ↔ x.Pc = y.Pc ∧ x.Sp = y.Sp ∧ x.Fp = y.Fp ∧ x.Stack = y.Stack ∧ x.Out = y.Out ∧ x.State = y.State ∧ x.Value = y.Value := by
  cases x
  cases y
  simp
def szMachine (x : DMachine) : Nat := x.Stack.length + x.Out.length
set_option maxRecDepth 100000 in
theorem toMachine_l {x : DMachine} {w : World} {A0 : Option Addr} {c0 : Nat} {A1 : Option Addr} {c1 : Nat} (h0 : I64 x.Pc) (h1 : I64 x.Sp) (h2 : I64 x.Fp) (h3 : (intT.sl 3).R w w.heap.size [.slice A0 x.Stack.length c0] x.Stack) (h4 : (intT.sl 3).R w w.heap.size [.slice A1 x.Out.length c1] x.Out) (h5 : I64 x.State) (h6 : I64 x.Value) (hn : szMachine x ≤ 1099511627776) : Calls Try.prog 84 #[.agg #[.int .i64 x.Pc, .int .i64 x.Sp, .int .i64 x.Fp, .slice A0 x.Stack.length c0, .slice A1 x.Out.length c1, .int .i64 x.State, .int .i64 x.Value]] w (RetMachine x w) := by
  unfold szMachine at hn
  go_enter Try.func84, Try.ntmps84
  go_wp2_with (first
      | (go_at_call 56; (with_reducible refine (toIntS_l (xs := x.Stack) (Ty.up _ h3 (by repeat (first | with_reducible exact Gro.refl _ | with_reducible exact Gro.refl_drew _ _ _ | with_reducible exact Gro.refl_drewN _ _ _ _ | assumption | with_reducible apply Gro.more | with_reducible apply Gro.alloc | with_reducible apply Gro.drew | with_reducible apply Gro.drewN))) (by omega)).mono ?_); rintro e w3 ⟨B0, d0, rfl, hF3, os3, dd3, rfl⟩)
      | (go_at_call 56; (with_reducible refine (toIntS_l (xs := x.Out) (Ty.up _ h4 (by repeat (first | with_reducible exact Gro.refl _ | with_reducible exact Gro.refl_drew _ _ _ | with_reducible exact Gro.refl_drewN _ _ _ _ | assumption | with_reducible apply Gro.more | with_reducible apply Gro.alloc | with_reducible apply Gro.drew | with_reducible apply Gro.drewN))) (by omega)).mono ?_); rintro e w4 ⟨B1, d1, rfl, hF4, os4, dd4, rfl⟩))
  refine bodyPost_ret (v := .agg #[.int .i64 x.Pc, .int .i64 x.Sp, .int .i64 x.Fp, .slice B0 x.Stack.length d0, .slice B1 x.Out.length d1, .int .i64 x.State, .int .i64 x.Value]) (by simp [results, Try.results84, go_sem]) rfl ⟨B0, d0, B1, d1, rfl, ?_, (by repeat (first | with_reducible exact Gro.refl _ | with_reducible exact Gro.refl_drew _ _ _ | with_reducible exact Gro.refl_drewN _ _ _ _ | assumption | with_reducible apply Gro.more | with_reducible apply Gro.alloc | with_reducible apply Gro.drew | with_reducible apply Gro.drewN))⟩
  obtain ⟨S3, hO3, hN3, hL3⟩ := hF3
  obtain ⟨S4, hO4, hN4, hL4⟩ := hF4
  have hU3 := Ty.ltO _ hO3
  have hL3' := hL3
  have hU4 := Ty.ltO _ hO4
  have hL4' := hL4
  simp at hL3' hU3 hL4' hU4
  exact ⟨_, tMachine_mkOd h0 h1 h2 (Ty.same _ hO3 hL3 (by repeat (first | with_reducible exact Same.refl _ _ _ | ((with_reducible refine Same.base ?_ ?_) <;> (simp <;> omega)) | ((with_reducible refine Same.more ?_ ?_ _ _); rotate_left; simp <;> omega) | ((with_reducible refine Same.alloc ?_ ?_ _); rotate_left; simp <;> omega) | with_reducible apply Same.drew | with_reducible apply Same.drewN))) (Ty.same _ hO4 hL4 (by repeat (first | with_reducible exact Same.refl _ _ _ | ((with_reducible refine Same.base ?_ ?_) <;> (simp <;> omega)) | ((with_reducible refine Same.more ?_ ?_ _ _); rotate_left; simp <;> omega) | ((with_reducible refine Same.alloc ?_ ?_ _); rotate_left; simp <;> omega) | with_reducible apply Same.drew | with_reducible apply Same.drewN))) h5 h6, List.nodup_append.2 ⟨hN3, hN4, fun a ha b hb => (by have h1 := hU3 a ha; have h2 := hL4' b hb; omega)⟩, fun b hb => (List.mem_append.1 hb).elim (fun hb => (by have := hL3' b hb; omega)) (fun hb => (by have := hL4' b hb; omega))⟩
set_option maxRecDepth 100000 in
theorem szMachine_l {x : DMachine} {w : World} {left : Int} {A0 : Option Addr} {c0 : Nat} {A1 : Option Addr} {c1 : Nat} (h3 : (intT.sl 3).R w w.heap.size [.slice A0 x.Stack.length c0] x.Stack) (h4 : (intT.sl 3).R w w.heap.size [.slice A1 x.Out.length c1] x.Out) (h00 : 0 ≤ left) (h01 : left ≤ 1099511627776) : Calls Try.prog 80 #[.agg #[.int .i64 x.Pc, .int .i64 x.Sp, .int .i64 x.Fp, .slice A0 x.Stack.length c0, .slice A1 x.Out.length c1, .int .i64 x.State, .int .i64 x.Value], .int .i64 left] w fun e w' => e = .returned (.int .i64 (szRes left (szMachine x))) ∧ Gro w w' := by
  have HS := Lib.hid (show szMachine x = x.Stack.length + x.Out.length from by unfold szMachine; rfl)
  by_cases c0' : (x.Stack.length : Int) ≤ left
  · skip
    by_cases c1' : (x.Stack.length : Int) + (x.Out.length : Int) ≤ left
    · skip
      have e0 : szRes (left) x.Stack.length = left - (x.Stack.length : Nat) := if_pos (by omega)
      have e1 : szRes (left - (x.Stack.length : Nat)) x.Out.length = left - (x.Stack.length : Nat) - (x.Out.length : Nat) := if_pos (by omega)
      go_enter Try.func80, Try.ntmps80
      go_wp2_with (first
      | (go_at_call 52; (with_reducible refine (szIntS_l (xs := x.Stack) (Ty.up _ h3 (by repeat (first | with_reducible exact Gro.refl _ | with_reducible exact Gro.refl_drew _ _ _ | with_reducible exact Gro.refl_drewN _ _ _ _ | assumption | with_reducible apply Gro.more | with_reducible apply Gro.alloc | with_reducible apply Gro.drew | with_reducible apply Gro.drewN))) (by omega) (by omega)).mono ?_); rintro e w0 ⟨rfl, os0, d0, rfl⟩)
      | (go_at_call 52; (with_reducible refine (szIntS_l (xs := x.Out) (Ty.up _ h4 (by repeat (first | with_reducible exact Gro.refl _ | with_reducible exact Gro.refl_drew _ _ _ | with_reducible exact Gro.refl_drewN _ _ _ _ | assumption | with_reducible apply Gro.more | with_reducible apply Gro.alloc | with_reducible apply Gro.drew | with_reducible apply Gro.drewN))) (by omega) (by omega)).mono ?_); rintro e w1 ⟨rfl, os1, d1, rfl⟩))
      go_ret
      exact ⟨ret_int (by rw [HS.out]; unfold szRes; rw [if_pos (by omega)] <;> omega), (by repeat (first | with_reducible exact Gro.refl _ | with_reducible exact Gro.refl_drew _ _ _ | with_reducible exact Gro.refl_drewN _ _ _ _ | assumption | with_reducible apply Gro.more | with_reducible apply Gro.alloc | with_reducible apply Gro.drew | with_reducible apply Gro.drewN))⟩
    · have e0 : szRes (left) x.Stack.length = left - (x.Stack.length : Nat) := if_pos (by omega)
      have e1 : szRes (left - (x.Stack.length : Nat)) x.Out.length = -1 := if_neg (by omega)
      go_enter Try.func80, Try.ntmps80
      go_wp2_with (first
      | (go_at_call 52; (with_reducible refine (szIntS_l (xs := x.Stack) (Ty.up _ h3 (by repeat (first | with_reducible exact Gro.refl _ | with_reducible exact Gro.refl_drew _ _ _ | with_reducible exact Gro.refl_drewN _ _ _ _ | assumption | with_reducible apply Gro.more | with_reducible apply Gro.alloc | with_reducible apply Gro.drew | with_reducible apply Gro.drewN))) (by omega) (by omega)).mono ?_); rintro e w0 ⟨rfl, os0, d0, rfl⟩)
      | (go_at_call 52; (with_reducible refine (szIntS_l (xs := x.Out) (Ty.up _ h4 (by repeat (first | with_reducible exact Gro.refl _ | with_reducible exact Gro.refl_drew _ _ _ | with_reducible exact Gro.refl_drewN _ _ _ _ | assumption | with_reducible apply Gro.more | with_reducible apply Gro.alloc | with_reducible apply Gro.drew | with_reducible apply Gro.drewN))) (by omega) (by omega)).mono ?_); rintro e w1 ⟨rfl, os1, d1, rfl⟩))
      go_ret
      exact ⟨ret_int (by rw [HS.out]; unfold szRes; rw [if_neg (by omega)]), (by repeat (first | with_reducible exact Gro.refl _ | with_reducible exact Gro.refl_drew _ _ _ | with_reducible exact Gro.refl_drewN _ _ _ _ | assumption | with_reducible apply Gro.more | with_reducible apply Gro.alloc | with_reducible apply Gro.drew | with_reducible apply Gro.drewN))⟩
  · have e0 : szRes (left) x.Stack.length = -1 := if_neg (by omega)
    go_enter Try.func80, Try.ntmps80
    go_wp2_with (first
      | (go_at_call 52; (with_reducible refine (szIntS_l (xs := x.Stack) (Ty.up _ h3 (by repeat (first | with_reducible exact Gro.refl _ | with_reducible exact Gro.refl_drew _ _ _ | with_reducible exact Gro.refl_drewN _ _ _ _ | assumption | with_reducible apply Gro.more | with_reducible apply Gro.alloc | with_reducible apply Gro.drew | with_reducible apply Gro.drewN))) (by omega) (by omega)).mono ?_); rintro e w0 ⟨rfl, os0, d0, rfl⟩))
    go_ret
    exact ⟨ret_int (by rw [HS.out]; unfold szRes; rw [if_neg (by omega)]), (by repeat (first | with_reducible exact Gro.refl _ | with_reducible exact Gro.refl_drew _ _ _ | with_reducible exact Gro.refl_drewN _ _ _ _ | assumption | with_reducible apply Gro.more | with_reducible apply Gro.alloc | with_reducible apply Gro.drew | with_reducible apply Gro.drewN))⟩
set_option maxRecDepth 100000 in
theorem eqMachine_l {x y : DMachine} {w : World} {A0 : Option Addr} {c0 : Nat} {A1 : Option Addr} {c1 : Nat} {B0 : Option Addr} {d0 : Nat} {B1 : Option Addr} {d1 : Nat} (h3 : (intT.sl 3).R w w.heap.size [.slice A0 x.Stack.length c0] x.Stack) (h4 : (intT.sl 3).R w w.heap.size [.slice A1 x.Out.length c1] x.Out) (k3 : (intT.sl 3).R w w.heap.size [.slice B0 y.Stack.length d0] y.Stack) (k4 : (intT.sl 3).R w w.heap.size [.slice B1 y.Out.length d1] y.Out) : Calls Try.prog 87 #[.agg #[.int .i64 x.Pc, .int .i64 x.Sp, .int .i64 x.Fp, .slice A0 x.Stack.length c0, .slice A1 x.Out.length c1, .int .i64 x.State, .int .i64 x.Value], .agg #[.int .i64 y.Pc, .int .i64 y.Sp, .int .i64 y.Fp, .slice B0 y.Stack.length d0, .slice B1 y.Out.length d1, .int .i64 y.State, .int .i64 y.Value]] w fun e w' => e = .returned (.bool (decide (x = y))) ∧ Gro w w' := by
  go_enter Try.func87, Try.ntmps87
  go_wp2_with (first
      | (go_at_call 34; (with_reducible refine (eqIntS_l (xs := x.Stack) (ys := y.Stack) (Ty.up _ h3 (by repeat (first | with_reducible exact Gro.refl _ | with_reducible exact Gro.refl_drew _ _ _ | with_reducible exact Gro.refl_drewN _ _ _ _ | assumption | with_reducible apply Gro.more | with_reducible apply Gro.alloc | with_reducible apply Gro.drew | with_reducible apply Gro.drewN))) (Ty.up _ k3 (by repeat (first | with_reducible exact Gro.refl _ | with_reducible exact Gro.refl_drew _ _ _ | with_reducible exact Gro.refl_drewN _ _ _ _ | assumption | with_reducible apply Gro.more | with_reducible apply Gro.alloc | with_reducible apply Gro.drew | with_reducible apply Gro.drewN)))).mono ?_); rintro e w3 ⟨rfl, os3, d3, rfl⟩)
      | (go_at_call 34; (with_reducible refine (eqIntS_l (xs := x.Out) (ys := y.Out) (Ty.up _ h4 (by repeat (first | with_reducible exact Gro.refl _ | with_reducible exact Gro.refl_drew _ _ _ | with_reducible exact Gro.refl_drewN _ _ _ _ | assumption | with_reducible apply Gro.more | with_reducible apply Gro.alloc | with_reducible apply Gro.drew | with_reducible apply Gro.drewN))) (Ty.up _ k4 (by repeat (first | with_reducible exact Gro.refl _ | with_reducible exact Gro.refl_drew _ _ _ | with_reducible exact Gro.refl_drewN _ _ _ _ | assumption | with_reducible apply Gro.more | with_reducible apply Gro.alloc | with_reducible apply Gro.drew | with_reducible apply Gro.drewN)))).mono ?_); rintro e w4 ⟨rfl, os4, d4, rfl⟩))
  all_goals
    go_ret
    refine ⟨ret_bool ?_, (by repeat (first | with_reducible exact Gro.refl _ | with_reducible exact Gro.refl_drew _ _ _ | with_reducible exact Gro.refl_drewN _ _ _ _ | assumption | with_reducible apply Gro.more | with_reducible apply Gro.alloc | with_reducible apply Gro.drew | with_reducible apply Gro.drewN))⟩
    simp_all [eq_DMachine]
def cntMachine (x : DMachine) : Nat := x.Stack.length + x.Out.length
def mkMachine (x : DMachine) (k : Int) : DMachine := { x with Stack := mkInts x.Stack k, Out := mkInts x.Out (k + (x.Stack.length : Nat)) }
end Go.Proofs.Ytfhcegblnhagjaa
