/-
  STRUCTS, written by a program (genfun.py): Space: the laws' own toX, szX, eqX.
-/
import Derived.Test.YtbhobjepjaeffaaLsImage
set_option linter.unusedVariables false
set_option linter.unusedSimpArgs false
namespace Go.Proofs.Ytbhobjepjaeffaa
open Go.RowKit
def RetSpace (x : DSpace) (w : World) (r : Ending) (w' : World) : Prop := ∃ A0 c0 A1 c1 A2 c2, r = .returned (.agg #[.slice A0 x.Images.length c0, .slice A1 x.Bases.length c1, .slice A2 x.Entries.length c2]) ∧ Fresh tSpace w w' [.slice A0 x.Images.length c0, .slice A1 x.Bases.length c1, .slice A2 x.Entries.length c2] x ∧ Gro w w'
theorem tSpace_mkOd {w : World} {x : DSpace} {A0 : Option Addr} {c0 : Nat} {A1 : Option Addr} {c1 : Nat} {A2 : Option Addr} {c2 : Nat} {S0 : List Nat} {S1 : List Nat} {S2 : List Nat} (h0 : (tImage.sl 96).O w [.slice A0 x.Images.length c0] x.Images S0) (h1 : (intT.sl 3).O w [.slice A1 x.Bases.length c1] x.Bases S1) (h2 : (intT.sl 3).O w [.slice A2 x.Entries.length c2] x.Entries S2) : tSpace.O w [.slice A0 x.Images.length c0, .slice A1 x.Bases.length c1, .slice A2 x.Entries.length c2] x (S0 ++ S1 ++ S2) := by
  have h : tSpace.O w [.slice A0 x.Images.length c0, .slice A1 x.Bases.length c1, .slice A2 x.Entries.length c2] x (S0 ++ (S1 ++ S2)) := ⟨[.slice A0 x.Images.length c0], [.slice A1 x.Bases.length c1, .slice A2 x.Entries.length c2], S0, (S1 ++ S2), rfl, rfl, h0, ⟨[.slice A1 x.Bases.length c1], [.slice A2 x.Entries.length c2], S1, S2, rfl, rfl, h1, h2⟩⟩
  simpa using h
theorem tSpace_fresh {w W : World} {x : DSpace} {A0 : Option Addr} {c0 : Nat} {A1 : Option Addr} {c1 : Nat} {A2 : Option Addr} {c2 : Nat} {u0 u1 u2 : World} {m0 m1 m2 : Nat} (h0 : Fre (tImage.sl 96) u0 m0 W [.slice A0 x.Images.length c0] x.Images) (h1 : Fre (intT.sl 3) u1 m1 W [.slice A1 x.Bases.length c1] x.Bases) (h2 : Fre (intT.sl 3) u2 m2 W [.slice A2 x.Entries.length c2] x.Entries) (hw0 : w.heap.size ≤ u0.heap.size) (hw1 : w.heap.size ≤ u1.heap.size) (hw2 : w.heap.size ≤ u2.heap.size) (hd0_1 : m0 ≤ u1.heap.size ∨ m1 ≤ u0.heap.size) (hd0_2 : m0 ≤ u2.heap.size ∨ m2 ≤ u0.heap.size) (hd1_2 : m1 ≤ u2.heap.size ∨ m2 ≤ u1.heap.size) : Fresh tSpace w W [.slice A0 x.Images.length c0, .slice A1 x.Bases.length c1, .slice A2 x.Entries.length c2] x := by
  obtain ⟨S0, hO0, hN0, hI0⟩ := h0
  obtain ⟨S1, hO1, hN1, hI1⟩ := h1
  obtain ⟨S2, hO2, hN2, hI2⟩ := h2
  exact ⟨_, tSpace_mkOd hO0 hO1 hO2, List.nodup_append.2 ⟨List.nodup_append.2 ⟨hN0, hN1, fun a ha b hb => (by have h1 := hI0 a ha; have h2 := hI1 b hb; omega)⟩, hN2, fun a ha b hb => (List.mem_append.1 ha).elim (fun ha => (by have h1 := hI0 a ha; have h2 := hI2 b hb; omega)) (fun ha => (by have h1 := hI1 a ha; have h2 := hI2 b hb; omega))⟩, fun b hb => (List.mem_append.1 hb).elim (fun hb => (List.mem_append.1 hb).elim (fun hb => (by have := hI0 b hb; omega)) (fun hb => (by have := hI1 b hb; omega))) (fun hb => (by have := hI2 b hb; omega))⟩
theorem eq_DSpace {x y : DSpace} : x = y ↔ x.Images = y.Images ∧ x.Bases = y.Bases ∧ x.Entries = y.Entries := by
  cases x
  cases y
  simp
def szSpace (x : DSpace) : Nat := szL szImage x.Images + x.Bases.length + x.Entries.length
set_option maxRecDepth 100000 in
theorem toSpace_l {x : DSpace} {w : World} {A0 : Option Addr} {c0 : Nat} {A1 : Option Addr} {c1 : Nat} {A2 : Option Addr} {c2 : Nat} (h0 : (tImage.sl 96).R w w.heap.size [.slice A0 x.Images.length c0] x.Images) (h1 : (intT.sl 3).R w w.heap.size [.slice A1 x.Bases.length c1] x.Bases) (h2 : (intT.sl 3).R w w.heap.size [.slice A2 x.Entries.length c2] x.Entries) (hn : szSpace x ≤ 1099511627776) : Calls Try.prog 19 #[.agg #[.slice A0 x.Images.length c0, .slice A1 x.Bases.length c1, .slice A2 x.Entries.length c2]] w (RetSpace x w) := by
  unfold szSpace at hn
  go_enter Try.func19, Try.ntmps19
  go_wp2_with (first
      | (go_at_call 55; (with_reducible refine (toImageS_l (xs := x.Images) (Ty.up _ h0 (by repeat (first | with_reducible exact Gro.refl _ | with_reducible exact Gro.refl_drew _ _ _ | with_reducible exact Gro.refl_drewN _ _ _ _ | assumption | with_reducible apply Gro.more | with_reducible apply Gro.alloc | with_reducible apply Gro.drew | with_reducible apply Gro.drewN))) (by omega)).mono ?_); rintro e w0 ⟨B0, d0, rfl, hF0, os0, dd0, rfl⟩)
      | (go_at_call 56; (with_reducible refine (toIntS_l (xs := x.Bases) (Ty.up _ h1 (by repeat (first | with_reducible exact Gro.refl _ | with_reducible exact Gro.refl_drew _ _ _ | with_reducible exact Gro.refl_drewN _ _ _ _ | assumption | with_reducible apply Gro.more | with_reducible apply Gro.alloc | with_reducible apply Gro.drew | with_reducible apply Gro.drewN))) (by omega)).mono ?_); rintro e w1 ⟨B1, d1, rfl, hF1, os1, dd1, rfl⟩)
      | (go_at_call 56; (with_reducible refine (toIntS_l (xs := x.Entries) (Ty.up _ h2 (by repeat (first | with_reducible exact Gro.refl _ | with_reducible exact Gro.refl_drew _ _ _ | with_reducible exact Gro.refl_drewN _ _ _ _ | assumption | with_reducible apply Gro.more | with_reducible apply Gro.alloc | with_reducible apply Gro.drew | with_reducible apply Gro.drewN))) (by omega)).mono ?_); rintro e w2 ⟨B2, d2, rfl, hF2, os2, dd2, rfl⟩))
  refine bodyPost_ret (v := .agg #[.slice B0 x.Images.length d0, .slice B1 x.Bases.length d1, .slice B2 x.Entries.length d2]) (by simp [results, Try.results19, go_sem]) rfl ⟨B0, d0, B1, d1, B2, d2, rfl, ?_, (by repeat (first | with_reducible exact Gro.refl _ | with_reducible exact Gro.refl_drew _ _ _ | with_reducible exact Gro.refl_drewN _ _ _ _ | assumption | with_reducible apply Gro.more | with_reducible apply Gro.alloc | with_reducible apply Gro.drew | with_reducible apply Gro.drewN))⟩
  obtain ⟨S0, hO0, hN0, hL0⟩ := hF0
  obtain ⟨S1, hO1, hN1, hL1⟩ := hF1
  obtain ⟨S2, hO2, hN2, hL2⟩ := hF2
  have hU0 := Ty.ltO _ hO0
  have hL0' := hL0
  have hU1 := Ty.ltO _ hO1
  have hL1' := hL1
  have hU2 := Ty.ltO _ hO2
  have hL2' := hL2
  simp at hL0' hU0 hL1' hU1 hL2' hU2
  exact ⟨_, tSpace_mkOd (Ty.same _ hO0 hL0 (by repeat (first | with_reducible exact Same.refl _ _ _ | ((with_reducible refine Same.base ?_ ?_) <;> (simp <;> omega)) | ((with_reducible refine Same.more ?_ ?_ _ _); rotate_left; simp <;> omega) | ((with_reducible refine Same.alloc ?_ ?_ _); rotate_left; simp <;> omega) | with_reducible apply Same.drew | with_reducible apply Same.drewN))) (Ty.same _ hO1 hL1 (by repeat (first | with_reducible exact Same.refl _ _ _ | ((with_reducible refine Same.base ?_ ?_) <;> (simp <;> omega)) | ((with_reducible refine Same.more ?_ ?_ _ _); rotate_left; simp <;> omega) | ((with_reducible refine Same.alloc ?_ ?_ _); rotate_left; simp <;> omega) | with_reducible apply Same.drew | with_reducible apply Same.drewN))) (Ty.same _ hO2 hL2 (by repeat (first | with_reducible exact Same.refl _ _ _ | ((with_reducible refine Same.base ?_ ?_) <;> (simp <;> omega)) | ((with_reducible refine Same.more ?_ ?_ _ _); rotate_left; simp <;> omega) | ((with_reducible refine Same.alloc ?_ ?_ _); rotate_left; simp <;> omega) | with_reducible apply Same.drew | with_reducible apply Same.drewN))), List.nodup_append.2 ⟨List.nodup_append.2 ⟨hN0, hN1, fun a ha b hb => (by have h1 := hU0 a ha; have h2 := hL1' b hb; omega)⟩, hN2, fun a ha b hb => (List.mem_append.1 ha).elim (fun ha => (by have h1 := hU0 a ha; have h2 := hL2' b hb; omega)) (fun ha => (by have h1 := hU1 a ha; have h2 := hL2' b hb; omega))⟩, fun b hb => (List.mem_append.1 hb).elim (fun hb => (List.mem_append.1 hb).elim (fun hb => (by have := hL0' b hb; omega)) (fun hb => (by have := hL1' b hb; omega))) (fun hb => (by have := hL2' b hb; omega))⟩
set_option maxRecDepth 100000 in
theorem szSpace_l {x : DSpace} {w : World} {left : Int} {A0 : Option Addr} {c0 : Nat} {A1 : Option Addr} {c1 : Nat} {A2 : Option Addr} {c2 : Nat} (h0 : (tImage.sl 96).R w w.heap.size [.slice A0 x.Images.length c0] x.Images) (h1 : (intT.sl 3).R w w.heap.size [.slice A1 x.Bases.length c1] x.Bases) (h2 : (intT.sl 3).R w w.heap.size [.slice A2 x.Entries.length c2] x.Entries) (h00 : 0 ≤ left) (h01 : left ≤ 1099511627776) : Calls Try.prog 17 #[.agg #[.slice A0 x.Images.length c0, .slice A1 x.Bases.length c1, .slice A2 x.Entries.length c2], .int .i64 left] w fun e w' => e = .returned (.int .i64 (szRes left (szSpace x))) ∧ Gro w w' := by
  obtain ⟨n0, hn0⟩ : ∃ n, szL szImage x.Images = n := ⟨_, rfl⟩
  have HS := Lib.hid (show szSpace x = n0 + x.Bases.length + x.Entries.length from by unfold szSpace; rw [hn0])
  have HN0 := Lib.hid hn0
  clear hn0
  by_cases c0' : (n0 : Int) ≤ left
  · skip
    by_cases c1' : (n0 : Int) + (x.Bases.length : Int) ≤ left
    · skip
      by_cases c2' : (n0 : Int) + (x.Bases.length : Int) + (x.Entries.length : Int) ≤ left
      · skip
        have e0 : szRes (left) n0 = left - (n0 : Nat) := if_pos (by omega)
        have e1 : szRes (left - (n0 : Nat)) x.Bases.length = left - (n0 : Nat) - (x.Bases.length : Nat) := if_pos (by omega)
        have e2 : szRes (left - (n0 : Nat) - (x.Bases.length : Nat)) x.Entries.length = left - (n0 : Nat) - (x.Bases.length : Nat) - (x.Entries.length : Nat) := if_pos (by omega)
        go_enter Try.func17, Try.ntmps17
        go_wp2_with (first
      | (go_at_call 51; (with_reducible refine (szImageS_l (xs := x.Images) (Ty.up _ h0 (by repeat (first | with_reducible exact Gro.refl _ | with_reducible exact Gro.refl_drew _ _ _ | with_reducible exact Gro.refl_drewN _ _ _ _ | assumption | with_reducible apply Gro.more | with_reducible apply Gro.alloc | with_reducible apply Gro.drew | with_reducible apply Gro.drewN))) (by omega) (by omega)).mono ?_); rintro e w0 ⟨rfl, os0, d0, rfl⟩; rw [HN0.out])
      | (go_at_call 52; (with_reducible refine (szIntS_l (xs := x.Bases) (Ty.up _ h1 (by repeat (first | with_reducible exact Gro.refl _ | with_reducible exact Gro.refl_drew _ _ _ | with_reducible exact Gro.refl_drewN _ _ _ _ | assumption | with_reducible apply Gro.more | with_reducible apply Gro.alloc | with_reducible apply Gro.drew | with_reducible apply Gro.drewN))) (by omega) (by omega)).mono ?_); rintro e w1 ⟨rfl, os1, d1, rfl⟩)
      | (go_at_call 52; (with_reducible refine (szIntS_l (xs := x.Entries) (Ty.up _ h2 (by repeat (first | with_reducible exact Gro.refl _ | with_reducible exact Gro.refl_drew _ _ _ | with_reducible exact Gro.refl_drewN _ _ _ _ | assumption | with_reducible apply Gro.more | with_reducible apply Gro.alloc | with_reducible apply Gro.drew | with_reducible apply Gro.drewN))) (by omega) (by omega)).mono ?_); rintro e w2 ⟨rfl, os2, d2, rfl⟩))
        go_ret
        exact ⟨ret_int (by rw [HS.out]; unfold szRes; rw [if_pos (by omega)] <;> omega), (by repeat (first | with_reducible exact Gro.refl _ | with_reducible exact Gro.refl_drew _ _ _ | with_reducible exact Gro.refl_drewN _ _ _ _ | assumption | with_reducible apply Gro.more | with_reducible apply Gro.alloc | with_reducible apply Gro.drew | with_reducible apply Gro.drewN))⟩
      · have e0 : szRes (left) n0 = left - (n0 : Nat) := if_pos (by omega)
        have e1 : szRes (left - (n0 : Nat)) x.Bases.length = left - (n0 : Nat) - (x.Bases.length : Nat) := if_pos (by omega)
        have e2 : szRes (left - (n0 : Nat) - (x.Bases.length : Nat)) x.Entries.length = -1 := if_neg (by omega)
        go_enter Try.func17, Try.ntmps17
        go_wp2_with (first
      | (go_at_call 51; (with_reducible refine (szImageS_l (xs := x.Images) (Ty.up _ h0 (by repeat (first | with_reducible exact Gro.refl _ | with_reducible exact Gro.refl_drew _ _ _ | with_reducible exact Gro.refl_drewN _ _ _ _ | assumption | with_reducible apply Gro.more | with_reducible apply Gro.alloc | with_reducible apply Gro.drew | with_reducible apply Gro.drewN))) (by omega) (by omega)).mono ?_); rintro e w0 ⟨rfl, os0, d0, rfl⟩; rw [HN0.out])
      | (go_at_call 52; (with_reducible refine (szIntS_l (xs := x.Bases) (Ty.up _ h1 (by repeat (first | with_reducible exact Gro.refl _ | with_reducible exact Gro.refl_drew _ _ _ | with_reducible exact Gro.refl_drewN _ _ _ _ | assumption | with_reducible apply Gro.more | with_reducible apply Gro.alloc | with_reducible apply Gro.drew | with_reducible apply Gro.drewN))) (by omega) (by omega)).mono ?_); rintro e w1 ⟨rfl, os1, d1, rfl⟩)
      | (go_at_call 52; (with_reducible refine (szIntS_l (xs := x.Entries) (Ty.up _ h2 (by repeat (first | with_reducible exact Gro.refl _ | with_reducible exact Gro.refl_drew _ _ _ | with_reducible exact Gro.refl_drewN _ _ _ _ | assumption | with_reducible apply Gro.more | with_reducible apply Gro.alloc | with_reducible apply Gro.drew | with_reducible apply Gro.drewN))) (by omega) (by omega)).mono ?_); rintro e w2 ⟨rfl, os2, d2, rfl⟩))
        go_ret
        exact ⟨ret_int (by rw [HS.out]; unfold szRes; rw [if_neg (by omega)]), (by repeat (first | with_reducible exact Gro.refl _ | with_reducible exact Gro.refl_drew _ _ _ | with_reducible exact Gro.refl_drewN _ _ _ _ | assumption | with_reducible apply Gro.more | with_reducible apply Gro.alloc | with_reducible apply Gro.drew | with_reducible apply Gro.drewN))⟩
    · have e0 : szRes (left) n0 = left - (n0 : Nat) := if_pos (by omega)
      have e1 : szRes (left - (n0 : Nat)) x.Bases.length = -1 := if_neg (by omega)
      go_enter Try.func17, Try.ntmps17
      go_wp2_with (first
      | (go_at_call 51; (with_reducible refine (szImageS_l (xs := x.Images) (Ty.up _ h0 (by repeat (first | with_reducible exact Gro.refl _ | with_reducible exact Gro.refl_drew _ _ _ | with_reducible exact Gro.refl_drewN _ _ _ _ | assumption | with_reducible apply Gro.more | with_reducible apply Gro.alloc | with_reducible apply Gro.drew | with_reducible apply Gro.drewN))) (by omega) (by omega)).mono ?_); rintro e w0 ⟨rfl, os0, d0, rfl⟩; rw [HN0.out])
      | (go_at_call 52; (with_reducible refine (szIntS_l (xs := x.Bases) (Ty.up _ h1 (by repeat (first | with_reducible exact Gro.refl _ | with_reducible exact Gro.refl_drew _ _ _ | with_reducible exact Gro.refl_drewN _ _ _ _ | assumption | with_reducible apply Gro.more | with_reducible apply Gro.alloc | with_reducible apply Gro.drew | with_reducible apply Gro.drewN))) (by omega) (by omega)).mono ?_); rintro e w1 ⟨rfl, os1, d1, rfl⟩))
      go_ret
      exact ⟨ret_int (by rw [HS.out]; unfold szRes; rw [if_neg (by omega)]), (by repeat (first | with_reducible exact Gro.refl _ | with_reducible exact Gro.refl_drew _ _ _ | with_reducible exact Gro.refl_drewN _ _ _ _ | assumption | with_reducible apply Gro.more | with_reducible apply Gro.alloc | with_reducible apply Gro.drew | with_reducible apply Gro.drewN))⟩
  · have e0 : szRes (left) n0 = -1 := if_neg (by omega)
    go_enter Try.func17, Try.ntmps17
    go_wp2_with (first
      | (go_at_call 51; (with_reducible refine (szImageS_l (xs := x.Images) (Ty.up _ h0 (by repeat (first | with_reducible exact Gro.refl _ | with_reducible exact Gro.refl_drew _ _ _ | with_reducible exact Gro.refl_drewN _ _ _ _ | assumption | with_reducible apply Gro.more | with_reducible apply Gro.alloc | with_reducible apply Gro.drew | with_reducible apply Gro.drewN))) (by omega) (by omega)).mono ?_); rintro e w0 ⟨rfl, os0, d0, rfl⟩; rw [HN0.out]))
    go_ret
    exact ⟨ret_int (by rw [HS.out]; unfold szRes; rw [if_neg (by omega)]), (by repeat (first | with_reducible exact Gro.refl _ | with_reducible exact Gro.refl_drew _ _ _ | with_reducible exact Gro.refl_drewN _ _ _ _ | assumption | with_reducible apply Gro.more | with_reducible apply Gro.alloc | with_reducible apply Gro.drew | with_reducible apply Gro.drewN))⟩
set_option maxRecDepth 100000 in
theorem eqSpace_l {x y : DSpace} {w : World} {A0 : Option Addr} {c0 : Nat} {A1 : Option Addr} {c1 : Nat} {A2 : Option Addr} {c2 : Nat} {B0 : Option Addr} {d0 : Nat} {B1 : Option Addr} {d1 : Nat} {B2 : Option Addr} {d2 : Nat} (h0 : (tImage.sl 96).R w w.heap.size [.slice A0 x.Images.length c0] x.Images) (h1 : (intT.sl 3).R w w.heap.size [.slice A1 x.Bases.length c1] x.Bases) (h2 : (intT.sl 3).R w w.heap.size [.slice A2 x.Entries.length c2] x.Entries) (k0 : (tImage.sl 96).R w w.heap.size [.slice B0 y.Images.length d0] y.Images) (k1 : (intT.sl 3).R w w.heap.size [.slice B1 y.Bases.length d1] y.Bases) (k2 : (intT.sl 3).R w w.heap.size [.slice B2 y.Entries.length d2] y.Entries) : Calls Try.prog 21 #[.agg #[.slice A0 x.Images.length c0, .slice A1 x.Bases.length c1, .slice A2 x.Entries.length c2], .agg #[.slice B0 y.Images.length d0, .slice B1 y.Bases.length d1, .slice B2 y.Entries.length d2]] w fun e w' => e = .returned (.bool (decide (x = y))) ∧ Gro w w' := by
  go_enter Try.func21, Try.ntmps21
  go_wp2_with (first
      | (go_at_call 59; (with_reducible refine (eqImageS_l (xs := x.Images) (ys := y.Images) (Ty.up _ h0 (by repeat (first | with_reducible exact Gro.refl _ | with_reducible exact Gro.refl_drew _ _ _ | with_reducible exact Gro.refl_drewN _ _ _ _ | assumption | with_reducible apply Gro.more | with_reducible apply Gro.alloc | with_reducible apply Gro.drew | with_reducible apply Gro.drewN))) (Ty.up _ k0 (by repeat (first | with_reducible exact Gro.refl _ | with_reducible exact Gro.refl_drew _ _ _ | with_reducible exact Gro.refl_drewN _ _ _ _ | assumption | with_reducible apply Gro.more | with_reducible apply Gro.alloc | with_reducible apply Gro.drew | with_reducible apply Gro.drewN)))).mono ?_); rintro e w0 ⟨rfl, os0, d0, rfl⟩)
      | (go_at_call 39; (with_reducible refine (eqIntS_l (xs := x.Bases) (ys := y.Bases) (Ty.up _ h1 (by repeat (first | with_reducible exact Gro.refl _ | with_reducible exact Gro.refl_drew _ _ _ | with_reducible exact Gro.refl_drewN _ _ _ _ | assumption | with_reducible apply Gro.more | with_reducible apply Gro.alloc | with_reducible apply Gro.drew | with_reducible apply Gro.drewN))) (Ty.up _ k1 (by repeat (first | with_reducible exact Gro.refl _ | with_reducible exact Gro.refl_drew _ _ _ | with_reducible exact Gro.refl_drewN _ _ _ _ | assumption | with_reducible apply Gro.more | with_reducible apply Gro.alloc | with_reducible apply Gro.drew | with_reducible apply Gro.drewN)))).mono ?_); rintro e w1 ⟨rfl, os1, d1, rfl⟩)
      | (go_at_call 39; (with_reducible refine (eqIntS_l (xs := x.Entries) (ys := y.Entries) (Ty.up _ h2 (by repeat (first | with_reducible exact Gro.refl _ | with_reducible exact Gro.refl_drew _ _ _ | with_reducible exact Gro.refl_drewN _ _ _ _ | assumption | with_reducible apply Gro.more | with_reducible apply Gro.alloc | with_reducible apply Gro.drew | with_reducible apply Gro.drewN))) (Ty.up _ k2 (by repeat (first | with_reducible exact Gro.refl _ | with_reducible exact Gro.refl_drew _ _ _ | with_reducible exact Gro.refl_drewN _ _ _ _ | assumption | with_reducible apply Gro.more | with_reducible apply Gro.alloc | with_reducible apply Gro.drew | with_reducible apply Gro.drewN)))).mono ?_); rintro e w2 ⟨rfl, os2, d2, rfl⟩))
  all_goals
    go_ret
    refine ⟨ret_bool ?_, (by repeat (first | with_reducible exact Gro.refl _ | with_reducible exact Gro.refl_drew _ _ _ | with_reducible exact Gro.refl_drewN _ _ _ _ | assumption | with_reducible apply Gro.more | with_reducible apply Gro.alloc | with_reducible apply Gro.drew | with_reducible apply Gro.drewN))⟩
    simp_all [eq_DSpace]
def cntSpace (x : DSpace) : Nat := cntImageS x.Images + x.Bases.length + x.Entries.length
def mkSpace (x : DSpace) (k : Int) : DSpace := { x with Images := mkImageS x.Images k, Bases := mkInts x.Bases (k + (cntImageS x.Images : Nat)), Entries := mkInts x.Entries (k + (cntImageS x.Images : Nat) + (x.Bases.length : Nat)) }
set_option maxRecDepth 100000 in
theorem markSpace_l {x : DSpace} {w : World} {k : Int} {S : List Nat} {A0 : Option Addr} {c0 : Nat} {A1 : Option Addr} {c1 : Nat} {A2 : Option Addr} {c2 : Nat} (hO : tSpace.O w [.slice A0 x.Images.length c0, .slice A1 x.Bases.length c1, .slice A2 x.Entries.length c2] x S) (hS : S.Nodup) (h00 : 0 < k) (h01 : k + (cntSpace x : Nat) ≤ 1099511627776) : Calls Try.prog 22 #[.agg #[.slice A0 x.Images.length c0, .slice A1 x.Bases.length c1, .slice A2 x.Entries.length c2], .int .i64 k] w fun e w' => e = .returned (.int .i64 (k + (cntSpace x : Nat))) ∧ tSpace.O w' [.slice A0 x.Images.length c0, .slice A1 x.Bases.length c1, .slice A2 x.Entries.length c2] (mkSpace x k) S ∧ OnlyS S w w' := by
  obtain ⟨A0', c0', S0, A1', c1', S1, A2', c2', S2, hcl, rfl, h0, h1, h2⟩ := tSpace_O hO
  simp only [List.cons.injEq, Value.slice.injEq, true_and, and_true] at hcl
  obtain ⟨⟨rfl, rfl⟩, ⟨rfl, rfl⟩, ⟨rfl, rfl⟩⟩ := hcl
  have hlt := Ty.ltO _ hO
  unfold cntSpace at h01 ⊢
  obtain ⟨hN0, hN1, hN2, hD01, hD02, hD10, hD12, hD20, hD21⟩ := nd3 hS
  have hO0 := h0
  have hL0 := Ty.ltO _ hO0
  have hO1 := h1
  have hL1 := Ty.ltO _ hO1
  have hO2 := h2
  have hL2 := Ty.ltO _ hO2
  go_enter Try.func22, Try.ntmps22
  go_wp2_with (fail)
  refine (markImageS_l (xs := x.Images) (Ty.groO _ hO0 (by repeat (first | with_reducible exact Gro.refl _ | with_reducible exact Gro.refl_drew _ _ _ | with_reducible exact Gro.refl_drewN _ _ _ _ | assumption | with_reducible apply Gro.more | with_reducible apply Gro.alloc | with_reducible apply Gro.drew | with_reducible apply Gro.drewN))) hN0 (by omega) (by omega)).mono ?_
  rintro e w1 ⟨rfl, hM0, hs1⟩
  have hO1_0 := keepOnly _ hO1 hs1 (by repeat (first | with_reducible exact Gro.refl _ | with_reducible exact Gro.refl_drew _ _ _ | with_reducible exact Gro.refl_drewN _ _ _ _ | assumption | with_reducible apply Gro.more | with_reducible apply Gro.alloc | with_reducible apply Gro.drew | with_reducible apply Gro.drewN)) hD10
  have hO2_0 := keepOnly _ hO2 hs1 (by repeat (first | with_reducible exact Gro.refl _ | with_reducible exact Gro.refl_drew _ _ _ | with_reducible exact Gro.refl_drewN _ _ _ _ | assumption | with_reducible apply Gro.more | with_reducible apply Gro.alloc | with_reducible apply Gro.drew | with_reducible apply Gro.drewN)) hD20
  have hc1_0 : w1.cell? ⟨w.heap.size, 0, none⟩ = some (.slice A0 x.Images.length c0) := (hs1.cell (by simp) (fun hm => by have := hL0 _ hm; omega) 0).trans (by simp [go_sem])
  have hc1_1 : w1.cell? ⟨w.heap.size, 1, none⟩ = some (.slice A1 x.Bases.length c1) := (hs1.cell (by simp) (fun hm => by have := hL0 _ hm; omega) 1).trans (by simp [go_sem])
  have hc1_2 : w1.cell? ⟨w.heap.size, 2, none⟩ = some (.slice A2 x.Entries.length c2) := (hs1.cell (by simp) (fun hm => by have := hL0 _ hm; omega) 2).trans (by simp [go_sem])
  have hcb1 : w.heap.size < w1.heap.size := Nat.lt_of_lt_of_le (by simp) hs1.size
  go_wp2_with (fail)
  refine (markIntS_l (xs := x.Bases) (Ty.groO _ hO1_0 (by repeat (first | with_reducible exact Gro.refl _ | with_reducible exact Gro.refl_drew _ _ _ | with_reducible exact Gro.refl_drewN _ _ _ _ | assumption | with_reducible apply Gro.more | with_reducible apply Gro.alloc | with_reducible apply Gro.drew | with_reducible apply Gro.drewN))) hN1 (by omega) (by omega)).mono ?_
  rintro e w2 ⟨rfl, hM1, hs2⟩
  have hM0_1 := keepOnly _ hM0 hs2 (by repeat (first | with_reducible exact Gro.refl _ | with_reducible exact Gro.refl_drew _ _ _ | with_reducible exact Gro.refl_drewN _ _ _ _ | assumption | with_reducible apply Gro.more | with_reducible apply Gro.alloc | with_reducible apply Gro.drew | with_reducible apply Gro.drewN)) hD01
  replace hM0 := hM0_1
  have hO2_0_1 := keepOnly _ hO2_0 hs2 (by repeat (first | with_reducible exact Gro.refl _ | with_reducible exact Gro.refl_drew _ _ _ | with_reducible exact Gro.refl_drewN _ _ _ _ | assumption | with_reducible apply Gro.more | with_reducible apply Gro.alloc | with_reducible apply Gro.drew | with_reducible apply Gro.drewN)) hD21
  have hc2_0 : w2.cell? ⟨w.heap.size, 0, none⟩ = some (.slice A0 x.Images.length c0) := (hs2.cell hcb1 (fun hm => by have := hL1 _ hm; omega) 0).trans hc1_0
  have hc2_1 : w2.cell? ⟨w.heap.size, 1, none⟩ = some (.slice A1 x.Bases.length c1) := (hs2.cell hcb1 (fun hm => by have := hL1 _ hm; omega) 1).trans hc1_1
  have hc2_2 : w2.cell? ⟨w.heap.size, 2, none⟩ = some (.slice A2 x.Entries.length c2) := (hs2.cell hcb1 (fun hm => by have := hL1 _ hm; omega) 2).trans hc1_2
  have hcb2 : w.heap.size < w2.heap.size := Nat.lt_of_lt_of_le hcb1 hs2.size
  clear hc1_0 hc1_1 hc1_2
  go_wp2_with (fail)
  refine (markIntS_l (xs := x.Entries) (Ty.groO _ hO2_0_1 (by repeat (first | with_reducible exact Gro.refl _ | with_reducible exact Gro.refl_drew _ _ _ | with_reducible exact Gro.refl_drewN _ _ _ _ | assumption | with_reducible apply Gro.more | with_reducible apply Gro.alloc | with_reducible apply Gro.drew | with_reducible apply Gro.drewN))) hN2 (by omega) (by omega)).mono ?_
  rintro e w3 ⟨rfl, hM2, hs3⟩
  have hM0_2 := keepOnly _ hM0 hs3 (by repeat (first | with_reducible exact Gro.refl _ | with_reducible exact Gro.refl_drew _ _ _ | with_reducible exact Gro.refl_drewN _ _ _ _ | assumption | with_reducible apply Gro.more | with_reducible apply Gro.alloc | with_reducible apply Gro.drew | with_reducible apply Gro.drewN)) hD02
  replace hM0 := hM0_2
  have hM1_2 := keepOnly _ hM1 hs3 (by repeat (first | with_reducible exact Gro.refl _ | with_reducible exact Gro.refl_drew _ _ _ | with_reducible exact Gro.refl_drewN _ _ _ _ | assumption | with_reducible apply Gro.more | with_reducible apply Gro.alloc | with_reducible apply Gro.drew | with_reducible apply Gro.drewN)) hD12
  replace hM1 := hM1_2
  go_wp2
  go_ret
  refine ⟨ret_int (by push_cast; omega), ?_, ((((Gro.only (by repeat (first | with_reducible exact Gro.refl _ | with_reducible exact Gro.refl_drew _ _ _ | with_reducible exact Gro.refl_drewN _ _ _ _ | assumption | with_reducible apply Gro.more | with_reducible apply Gro.alloc | with_reducible apply Gro.drew | with_reducible apply Gro.drewN)) _).trans (hs1.mono (fun b hb => by simp [hb]))).trans (hs2.mono (fun b hb => by simp [hb]))).trans (hs3.mono (fun b hb => by simp [hb])))⟩
  have h := tSpace_mkOd (w := w3) (x := mkSpace x k) (by simpa [mkSpace, mkImageS_length, mkInts_length] using hM0) (by simpa [mkSpace, mkImageS_length, mkInts_length] using hM1) (by simpa [mkSpace, mkImageS_length, mkInts_length] using hM2)
  simpa [mkSpace, mkImageS_length, mkInts_length] using h
theorem mkSpace_read {x : DSpace} {w : World} {k : Int} {S : List Nat} {A0 : Option Addr} {c0 : Nat} {A1 : Option Addr} {c1 : Nat} {A2 : Option Addr} {c2 : Nat} (hO : tSpace.O w [.slice A0 x.Images.length c0, .slice A1 x.Bases.length c1, .slice A2 x.Entries.length c2] (mkSpace x k) S) : (tImage.sl 96).R w w.heap.size [.slice A0 x.Images.length c0] (mkSpace x k).Images ∧ (intT.sl 3).R w w.heap.size [.slice A1 x.Bases.length c1] (mkSpace x k).Bases ∧ (intT.sl 3).R w w.heap.size [.slice A2 x.Entries.length c2] (mkSpace x k).Entries := by
  obtain ⟨A0', c0', S0, A1', c1', S1, A2', c2', S2, hcl, rfl, h0, h1, h2⟩ := tSpace_O hO
  simp only [List.cons.injEq, Value.slice.injEq, true_and, and_true] at hcl
  have eh0 : (mkSpace x k).Images.length = x.Images.length := by simp [mkSpace, mkImageS_length, mkInts_length]
  have eh1 : (mkSpace x k).Bases.length = x.Bases.length := by simp [mkSpace, mkImageS_length, mkInts_length]
  have eh2 : (mkSpace x k).Entries.length = x.Entries.length := by simp [mkSpace, mkImageS_length, mkInts_length]
  simp only [eh0, eh1, eh2, true_and, and_true] at hcl
  obtain ⟨⟨rfl, rfl⟩, ⟨rfl, rfl⟩, ⟨rfl, rfl⟩⟩ := hcl
  rw [eh0] at h0
  rw [eh1] at h1
  rw [eh2] at h2
  exact ⟨Ty.read _ h0, Ty.read _ h1, Ty.read _ h2⟩
set_option maxRecDepth 100000 in
theorem heldSpace_l {x : DSpace} {w : World} {k : Int} {A0 : Option Addr} {c0 : Nat} {A1 : Option Addr} {c1 : Nat} {A2 : Option Addr} {c2 : Nat} (h0 : (tImage.sl 96).R w w.heap.size [.slice A0 x.Images.length c0] (mkSpace x k).Images) (h1 : (intT.sl 3).R w w.heap.size [.slice A1 x.Bases.length c1] (mkSpace x k).Bases) (h2 : (intT.sl 3).R w w.heap.size [.slice A2 x.Entries.length c2] (mkSpace x k).Entries) (h00 : 0 < k) (h01 : k + (cntSpace x : Nat) ≤ 1099511627776) : Calls Try.prog 62 #[.agg #[.slice A0 x.Images.length c0, .slice A1 x.Bases.length c1, .slice A2 x.Entries.length c2], .int .i64 k] w fun e w' => e = .returned (.int .i64 (k + (cntSpace x : Nat))) ∧ Gro w w' := by
  unfold cntSpace at h01 ⊢
  go_enter Try.func62, Try.ntmps62
  go_wp2_with (fail)
  refine (heldImageS_l (xs := x.Images) (Ty.up _ h0 (by repeat (first | with_reducible exact Gro.refl _ | with_reducible exact Gro.refl_drew _ _ _ | with_reducible exact Gro.refl_drewN _ _ _ _ | assumption | with_reducible apply Gro.more | with_reducible apply Gro.alloc | with_reducible apply Gro.drew | with_reducible apply Gro.drewN))) (by omega) (by omega)).mono ?_
  rintro e w1 ⟨rfl, os1, d1, rfl⟩
  go_wp2_with (fail)
  refine (heldIntS_l (xs := x.Bases) (Nat.le_refl _) (Ty.up _ h1 (by repeat (first | with_reducible exact Gro.refl _ | with_reducible exact Gro.refl_drew _ _ _ | with_reducible exact Gro.refl_drewN _ _ _ _ | assumption | with_reducible apply Gro.more | with_reducible apply Gro.alloc | with_reducible apply Gro.drew | with_reducible apply Gro.drewN))) (by omega) (by omega)).mono ?_
  rintro e w2 ⟨rfl, os2, d2, rfl⟩
  go_wp2_with (fail)
  refine (heldIntS_l (xs := x.Entries) (Nat.le_refl _) (Ty.up _ h2 (by repeat (first | with_reducible exact Gro.refl _ | with_reducible exact Gro.refl_drew _ _ _ | with_reducible exact Gro.refl_drewN _ _ _ _ | assumption | with_reducible apply Gro.more | with_reducible apply Gro.alloc | with_reducible apply Gro.drew | with_reducible apply Gro.drewN))) (by omega) (by omega)).mono ?_
  rintro e w3 ⟨rfl, os3, d3, rfl⟩
  go_wp2
  go_ret
  exact ⟨ret_int (by push_cast; omega), (by repeat (first | with_reducible exact Gro.refl _ | with_reducible exact Gro.refl_drew _ _ _ | with_reducible exact Gro.refl_drewN _ _ _ _ | assumption | with_reducible apply Gro.more | with_reducible apply Gro.alloc | with_reducible apply Gro.drew | with_reducible apply Gro.drewN))⟩
end Go.Proofs.Ytbhobjepjaeffaa
