/-
  PART 2 of the texts of this claim, one behind the other: contracts and laws that the last part uses.
-/
import Derived.Test.YtgodpjnbhmahaaaGreatAllALawStackOf
import Derived.Deep.DeepMust
import Derived.Laws.Bits128
import Derived.OrdersHeld
import Derived.Deep.Cut
import Derived.Deep.RegionLaw
set_option linter.unusedVariables false
set_option linter.unusedSimpArgs false
namespace Go.Proofs.YtgodpjnbhmahaaaGreat
open Go.RowKit
def RetSpace (x : DSpace) (w : World) (r : Ending) (w' : World) : Prop := ∃ A0 c0 A1 c1 A2 c2, r = .returned (.agg #[.slice A0 x.Images.length c0, .slice A1 x.Bases.length c1, .slice A2 x.Entries.length c2]) ∧ Fresh tSpace w w' [.slice A0 x.Images.length c0, .slice A1 x.Bases.length c1, .slice A2 x.Entries.length c2] x ∧ Gro w w'
theorem tSpace_mkOd {w : World} {x : DSpace} {A0 : Option Addr} {c0 : Nat} {A1 : Option Addr} {c1 : Nat} {A2 : Option Addr} {c2 : Nat} {S0 : List Nat} {S1 : List Nat} {S2 : List Nat} (h0 : (tImage.sl 113).O w [.slice A0 x.Images.length c0] x.Images S0) (h1 : (intT.sl 3).O w [.slice A1 x.Bases.length c1] x.Bases S1) (h2 : (intT.sl 3).O w [.slice A2 x.Entries.length c2] x.Entries S2) : tSpace.O w [.slice A0 x.Images.length c0, .slice A1 x.Bases.length c1, .slice A2 x.Entries.length c2] x (S0 ++ S1 ++ S2) := by
  have h : tSpace.O w [.slice A0 x.Images.length c0, .slice A1 x.Bases.length c1, .slice A2 x.Entries.length c2] x (S0 ++ (S1 ++ S2)) := ⟨[.slice A0 x.Images.length c0], [.slice A1 x.Bases.length c1, .slice A2 x.Entries.length c2], S0, (S1 ++ S2), rfl, rfl, h0, ⟨[.slice A1 x.Bases.length c1], [.slice A2 x.Entries.length c2], S1, S2, rfl, rfl, h1, h2⟩⟩
  simpa using h
theorem eq_DSpace {x y : DSpace} : x = y ↔ x.Images = y.Images ∧ x.Bases = y.Bases ∧ x.Entries = y.Entries := by
  cases x
  cases y
  simp
def szSpace (x : DSpace) : Nat := szL szImage x.Images + x.Bases.length + x.Entries.length
set_option maxRecDepth 100000 in
theorem toSpace_l {x : DSpace} {w : World} {A0 : Option Addr} {c0 : Nat} {A1 : Option Addr} {c1 : Nat} {A2 : Option Addr} {c2 : Nat} (h0 : (tImage.sl 113).R w w.heap.size [.slice A0 x.Images.length c0] x.Images) (h1 : (intT.sl 3).R w w.heap.size [.slice A1 x.Bases.length c1] x.Bases) (h2 : (intT.sl 3).R w w.heap.size [.slice A2 x.Entries.length c2] x.Entries) (hn : szSpace x ≤ 1099511627776) : Calls Tryz.prog 64 #[.agg #[.slice A0 x.Images.length c0, .slice A1 x.Bases.length c1, .slice A2 x.Entries.length c2]] w (RetSpace x w) := by
  unfold szSpace at hn
  go_enter Tryz.func64, Tryz.ntmps64
  go_wp2_with (first
      | (go_at_call 154; (with_reducible refine (toImageS_l (xs := x.Images) (Ty.up _ h0 gG) (by omega)).mono ?_); rintro e w0 ⟨B0, d0, rfl, hF0, os0, dd0, rfl⟩)
      | (go_at_call 155; (with_reducible refine (toIntS_l (xs := x.Bases) (Ty.up _ h1 gG) (by omega)).mono ?_); rintro e w1 ⟨B1, d1, rfl, hF1, os1, dd1, rfl⟩)
      | (go_at_call 155; (with_reducible refine (toIntS_l (xs := x.Entries) (Ty.up _ h2 gG) (by omega)).mono ?_); rintro e w2 ⟨B2, d2, rfl, hF2, os2, dd2, rfl⟩))
  refine bodyPost_ret (v := .agg #[.slice B0 x.Images.length d0, .slice B1 x.Bases.length d1, .slice B2 x.Entries.length d2]) (by simp [results, Tryz.results64, go_sem]) rfl ⟨B0, d0, B1, d1, B2, d2, rfl, ?_, gG⟩
  obtain ⟨S0, hO0, hN0, hL0⟩ := hF0
  obtain ⟨S1, hO1, hN1, hL1⟩ := hF1
  obtain ⟨S2, hO2, hN2, hL2⟩ := hF2
  have hU0 := Ty.ltO _ hO0
  have hL0' := hL0
  have hU1 := Ty.ltO _ hO1
  have hL1' := hL1
  have hU2 := Ty.ltO _ hO2
  have hL2' := hL2
  simp at hL0' hU0 hL1' hU1 hL2' hU2
  exact ⟨_, tSpace_mkOd (Ty.same _ hO0 hL0 (by repeat (first | with_reducible exact Same.refl _ _ _ | ((with_reducible refine Same.base ?_ ?_) <;> (simp <;> omega)) | ((with_reducible refine Same.more ?_ ?_ _ _); rotate_left; simp <;> omega) | ((with_reducible refine Same.alloc ?_ ?_ _); rotate_left; simp <;> omega) | with_reducible apply Same.drew | with_reducible apply Same.drewN))) (Ty.same _ hO1 hL1 (by repeat (first | with_reducible exact Same.refl _ _ _ | ((with_reducible refine Same.base ?_ ?_) <;> (simp <;> omega)) | ((with_reducible refine Same.more ?_ ?_ _ _); rotate_left; simp <;> omega) | ((with_reducible refine Same.alloc ?_ ?_ _); rotate_left; simp <;> omega) | with_reducible apply Same.drew | with_reducible apply Same.drewN))) (Ty.same _ hO2 hL2 (by repeat (first | with_reducible exact Same.refl _ _ _ | ((with_reducible refine Same.base ?_ ?_) <;> (simp <;> omega)) | ((with_reducible refine Same.more ?_ ?_ _ _); rotate_left; simp <;> omega) | ((with_reducible refine Same.alloc ?_ ?_ _); rotate_left; simp <;> omega) | with_reducible apply Same.drew | with_reducible apply Same.drewN))), List.nodup_append.2 ⟨List.nodup_append.2 ⟨hN0, hN1, fun a ha b hb => (by have h1 := hU0 a ha; have h2 := hL1' b hb; omega)⟩, hN2, fun a ha b hb => (List.mem_append.1 ha).elim (fun ha => (by have h1 := hU0 a ha; have h2 := hL2' b hb; omega)) (fun ha => (by have h1 := hU1 a ha; have h2 := hL2' b hb; omega))⟩, fun b hb => (List.mem_append.1 hb).elim (fun hb => (List.mem_append.1 hb).elim (fun hb => (by have := hL0' b hb; omega)) (fun hb => (by have := hL1' b hb; omega))) (fun hb => (by have := hL2' b hb; omega))⟩
set_option maxRecDepth 100000 in
theorem szSpace_l {x : DSpace} {w : World} {left : Int} {A0 : Option Addr} {c0 : Nat} {A1 : Option Addr} {c1 : Nat} {A2 : Option Addr} {c2 : Nat} (h0 : (tImage.sl 113).R w w.heap.size [.slice A0 x.Images.length c0] x.Images) (h1 : (intT.sl 3).R w w.heap.size [.slice A1 x.Bases.length c1] x.Bases) (h2 : (intT.sl 3).R w w.heap.size [.slice A2 x.Entries.length c2] x.Entries) (h00 : 0 ≤ left) (h01 : left ≤ 1099511627776) : Calls Tryz.prog 62 #[.agg #[.slice A0 x.Images.length c0, .slice A1 x.Bases.length c1, .slice A2 x.Entries.length c2], .int .i64 left] w fun e w' => e = .returned (.int .i64 (szRes left (szSpace x))) ∧ Gro w w' := by
  obtain ⟨n0, hn0⟩ : ∃ n, szL szImage x.Images = n := ⟨_, rfl⟩
  have HS := Lib.hid (show szSpace x = n0 + x.Bases.length + x.Entries.length from by unfold szSpace; rw [hn0])
  have HN0 := Lib.hid hn0
  clear hn0
  by_cases c0' : (n0 : Int) ≤ left
  · skip
    by_cases c1' : (n0 : Int) + (x.Bases.length : Int) ≤ left
    · skip
      by_cases c2' : (n0 : Int) + (x.Bases.length : Int) + (x.Entries.length : Int) ≤ left
      · skip
        have e0 : szRes (left) n0 = left - (n0 : Nat) := if_pos (by omega)
        have e1 : szRes (left - (n0 : Nat)) x.Bases.length = left - (n0 : Nat) - (x.Bases.length : Nat) := if_pos (by omega)
        have e2 : szRes (left - (n0 : Nat) - (x.Bases.length : Nat)) x.Entries.length = left - (n0 : Nat) - (x.Bases.length : Nat) - (x.Entries.length : Nat) := if_pos (by omega)
        go_enter Tryz.func62, Tryz.ntmps62
        go_wp2_with (first
      | (go_at_call 149; (with_reducible refine (szImageS_l (xs := x.Images) (Ty.up _ h0 gG) (by omega) (by omega)).mono ?_); rintro e w0 ⟨rfl, os0, d0, rfl⟩; rw [HN0.out])
      | (go_at_call 150; (with_reducible refine (szIntS_l (xs := x.Bases) (Ty.up _ h1 gG) (by omega) (by omega)).mono ?_); rintro e w1 ⟨rfl, os1, d1, rfl⟩)
      | (go_at_call 150; (with_reducible refine (szIntS_l (xs := x.Entries) (Ty.up _ h2 gG) (by omega) (by omega)).mono ?_); rintro e w2 ⟨rfl, os2, d2, rfl⟩))
        go_ret
        exact ⟨ret_int (by rw [HS.out]; unfold szRes; rw [if_pos (by omega)] <;> omega), gG⟩
      · have e0 : szRes (left) n0 = left - (n0 : Nat) := if_pos (by omega)
        have e1 : szRes (left - (n0 : Nat)) x.Bases.length = left - (n0 : Nat) - (x.Bases.length : Nat) := if_pos (by omega)
        have e2 : szRes (left - (n0 : Nat) - (x.Bases.length : Nat)) x.Entries.length = -1 := if_neg (by omega)
        go_enter Tryz.func62, Tryz.ntmps62
        go_wp2_with (first
      | (go_at_call 149; (with_reducible refine (szImageS_l (xs := x.Images) (Ty.up _ h0 gG) (by omega) (by omega)).mono ?_); rintro e w0 ⟨rfl, os0, d0, rfl⟩; rw [HN0.out])
      | (go_at_call 150; (with_reducible refine (szIntS_l (xs := x.Bases) (Ty.up _ h1 gG) (by omega) (by omega)).mono ?_); rintro e w1 ⟨rfl, os1, d1, rfl⟩)
      | (go_at_call 150; (with_reducible refine (szIntS_l (xs := x.Entries) (Ty.up _ h2 gG) (by omega) (by omega)).mono ?_); rintro e w2 ⟨rfl, os2, d2, rfl⟩))
        go_ret
        exact ⟨ret_int (by rw [HS.out]; unfold szRes; rw [if_neg (by omega)]), gG⟩
    · have e0 : szRes (left) n0 = left - (n0 : Nat) := if_pos (by omega)
      have e1 : szRes (left - (n0 : Nat)) x.Bases.length = -1 := if_neg (by omega)
      go_enter Tryz.func62, Tryz.ntmps62
      go_wp2_with (first
      | (go_at_call 149; (with_reducible refine (szImageS_l (xs := x.Images) (Ty.up _ h0 gG) (by omega) (by omega)).mono ?_); rintro e w0 ⟨rfl, os0, d0, rfl⟩; rw [HN0.out])
      | (go_at_call 150; (with_reducible refine (szIntS_l (xs := x.Bases) (Ty.up _ h1 gG) (by omega) (by omega)).mono ?_); rintro e w1 ⟨rfl, os1, d1, rfl⟩))
      go_ret
      exact ⟨ret_int (by rw [HS.out]; unfold szRes; rw [if_neg (by omega)]), gG⟩
  · have e0 : szRes (left) n0 = -1 := if_neg (by omega)
    go_enter Tryz.func62, Tryz.ntmps62
    go_wp2_with (first
      | (go_at_call 149; (with_reducible refine (szImageS_l (xs := x.Images) (Ty.up _ h0 gG) (by omega) (by omega)).mono ?_); rintro e w0 ⟨rfl, os0, d0, rfl⟩; rw [HN0.out]))
    go_ret
    exact ⟨ret_int (by rw [HS.out]; unfold szRes; rw [if_neg (by omega)]), gG⟩
set_option maxRecDepth 100000 in
theorem eqSpace_l {x y : DSpace} {w : World} {A0 : Option Addr} {c0 : Nat} {A1 : Option Addr} {c1 : Nat} {A2 : Option Addr} {c2 : Nat} {B0 : Option Addr} {d0 : Nat} {B1 : Option Addr} {d1 : Nat} {B2 : Option Addr} {d2 : Nat} (h0 : (tImage.sl 113).R w w.heap.size [.slice A0 x.Images.length c0] x.Images) (h1 : (intT.sl 3).R w w.heap.size [.slice A1 x.Bases.length c1] x.Bases) (h2 : (intT.sl 3).R w w.heap.size [.slice A2 x.Entries.length c2] x.Entries) (k0 : (tImage.sl 113).R w w.heap.size [.slice B0 y.Images.length d0] y.Images) (k1 : (intT.sl 3).R w w.heap.size [.slice B1 y.Bases.length d1] y.Bases) (k2 : (intT.sl 3).R w w.heap.size [.slice B2 y.Entries.length d2] y.Entries) : Calls Tryz.prog 65 #[.agg #[.slice A0 x.Images.length c0, .slice A1 x.Bases.length c1, .slice A2 x.Entries.length c2], .agg #[.slice B0 y.Images.length d0, .slice B1 y.Bases.length d1, .slice B2 y.Entries.length d2]] w fun e w' => e = .returned (.bool (decide (x = y))) ∧ Gro w w' := by
  go_enter Tryz.func65, Tryz.ntmps65
  go_wp2_with (first
      | (go_at_call 156; (with_reducible refine (eqImageS_l (xs := x.Images) (ys := y.Images) (Ty.up _ h0 gG) (Ty.up _ k0 gG)).mono ?_); rintro e w0 ⟨rfl, os0, d0, rfl⟩)
      | (go_at_call 157; (with_reducible refine (eqIntS_l (xs := x.Bases) (ys := y.Bases) (Ty.up _ h1 gG) (Ty.up _ k1 gG)).mono ?_); rintro e w1 ⟨rfl, os1, d1, rfl⟩)
      | (go_at_call 157; (with_reducible refine (eqIntS_l (xs := x.Entries) (ys := y.Entries) (Ty.up _ h2 gG) (Ty.up _ k2 gG)).mono ?_); rintro e w2 ⟨rfl, os2, d2, rfl⟩))
  all_goals
    go_ret
    refine ⟨ret_bool ?_, gG⟩
    simp_all [eq_DSpace]
def cntSpace (x : DSpace) : Nat := cntImageS x.Images + x.Bases.length + x.Entries.length
def mkSpace (x : DSpace) (k : Int) : DSpace := { x with Images := mkImageS x.Images k, Bases := mkInts x.Bases (k + (cntImageS x.Images : Nat)), Entries := mkInts x.Entries (k + (cntImageS x.Images : Nat) + (x.Bases.length : Nat)) }
set_option maxRecDepth 100000 in
theorem markSpace_l {x : DSpace} {w : World} {k : Int} {S : List Nat} {A0 : Option Addr} {c0 : Nat} {A1 : Option Addr} {c1 : Nat} {A2 : Option Addr} {c2 : Nat} (hO : tSpace.O w [.slice A0 x.Images.length c0, .slice A1 x.Bases.length c1, .slice A2 x.Entries.length c2] x S) (hS : S.Nodup) (h00 : 0 < k) (h01 : k + (cntSpace x : Nat) ≤ 1099511627776) : Calls Tryz.prog 66 #[.agg #[.slice A0 x.Images.length c0, .slice A1 x.Bases.length c1, .slice A2 x.Entries.length c2], .int .i64 k] w fun e w' => e = .returned (.int .i64 (k + (cntSpace x : Nat))) ∧ tSpace.O w' [.slice A0 x.Images.length c0, .slice A1 x.Bases.length c1, .slice A2 x.Entries.length c2] (mkSpace x k) S ∧ OnlyS S w w' := by
  obtain ⟨A0', c0', S0, A1', c1', S1, A2', c2', S2, hcl, rfl, h0, h1, h2⟩ := tSpace_O hO
  simp only [List.cons.injEq, Value.slice.injEq, true_and, and_true] at hcl
  obtain ⟨⟨rfl, rfl⟩, ⟨rfl, rfl⟩, ⟨rfl, rfl⟩⟩ := hcl
  have hlt := Ty.ltO _ hO
  unfold cntSpace at h01 ⊢
  obtain ⟨hN0, hN1, hN2, hD01, hD02, hD10, hD12, hD20, hD21⟩ := nd3 hS
  have hO0 := h0
  have hL0 := Ty.ltO _ hO0
  have hO1 := h1
  have hL1 := Ty.ltO _ hO1
  have hO2 := h2
  have hL2 := Ty.ltO _ hO2
  go_enter Tryz.func66, Tryz.ntmps66
  go_wp2_with (fail)
  refine (markImageS_l (xs := x.Images) (Ty.groO _ hO0 gG) hN0 (by omega) (by omega)).mono ?_
  rintro e w1 ⟨rfl, hM0, hs1⟩
  have hO1_0 := keepOnly _ hO1 hs1 gG hD10
  have hO2_0 := keepOnly _ hO2 hs1 gG hD20
  have hc1_0 : w1.cell? ⟨w.heap.size, 0, none⟩ = some (.slice A0 x.Images.length c0) := (hs1.cell (by simp) (fun hm => by have := hL0 _ hm; omega) 0).trans (by simp [go_sem])
  have hc1_1 : w1.cell? ⟨w.heap.size, 1, none⟩ = some (.slice A1 x.Bases.length c1) := (hs1.cell (by simp) (fun hm => by have := hL0 _ hm; omega) 1).trans (by simp [go_sem])
  have hc1_2 : w1.cell? ⟨w.heap.size, 2, none⟩ = some (.slice A2 x.Entries.length c2) := (hs1.cell (by simp) (fun hm => by have := hL0 _ hm; omega) 2).trans (by simp [go_sem])
  have hcb1 : w.heap.size < w1.heap.size := Nat.lt_of_lt_of_le (by simp) hs1.size
  go_wp2_with (fail)
  refine (markIntS_l (xs := x.Bases) (Ty.groO _ hO1_0 gG) hN1 (by omega) (by omega)).mono ?_
  rintro e w2 ⟨rfl, hM1, hs2⟩
  have hM0_1 := keepOnly _ hM0 hs2 gG hD01
  replace hM0 := hM0_1
  have hO2_0_1 := keepOnly _ hO2_0 hs2 gG hD21
  have hc2_0 : w2.cell? ⟨w.heap.size, 0, none⟩ = some (.slice A0 x.Images.length c0) := (hs2.cell hcb1 (fun hm => by have := hL1 _ hm; omega) 0).trans hc1_0
  have hc2_1 : w2.cell? ⟨w.heap.size, 1, none⟩ = some (.slice A1 x.Bases.length c1) := (hs2.cell hcb1 (fun hm => by have := hL1 _ hm; omega) 1).trans hc1_1
  have hc2_2 : w2.cell? ⟨w.heap.size, 2, none⟩ = some (.slice A2 x.Entries.length c2) := (hs2.cell hcb1 (fun hm => by have := hL1 _ hm; omega) 2).trans hc1_2
  have hcb2 : w.heap.size < w2.heap.size := Nat.lt_of_lt_of_le hcb1 hs2.size
  clear hc1_0 hc1_1 hc1_2
  go_wp2_with (fail)
  refine (markIntS_l (xs := x.Entries) (Ty.groO _ hO2_0_1 gG) hN2 (by omega) (by omega)).mono ?_
  rintro e w3 ⟨rfl, hM2, hs3⟩
  have hM0_2 := keepOnly _ hM0 hs3 gG hD02
  replace hM0 := hM0_2
  have hM1_2 := keepOnly _ hM1 hs3 gG hD12
  replace hM1 := hM1_2
  go_wp2
  go_ret
  refine ⟨ret_int (by push_cast; omega), ?_, ((((Gro.only gG _).trans (hs1.mono (fun b hb => by simp [hb]))).trans (hs2.mono (fun b hb => by simp [hb]))).trans (hs3.mono (fun b hb => by simp [hb])))⟩
  have h := tSpace_mkOd (w := w3) (x := mkSpace x k) (by simpa [mkSpace, mkImageS_length, mkInts_length] using hM0) (by simpa [mkSpace, mkImageS_length, mkInts_length] using hM1) (by simpa [mkSpace, mkImageS_length, mkInts_length] using hM2)
  simpa [mkSpace, mkImageS_length, mkInts_length] using h
end Go.Proofs.YtgodpjnbhmahaaaGreat
namespace Go.Proofs.YtgodpjnbhmahaaaGreat
open Go.RowKit
def RetRule (x : DRule) (w : World) (r : Ending) (w' : World) : Prop := r = .returned (.agg #[.int .i64 x.Start, .int .i64 x.End, .bool x.Frame, .int .i64 x.Depth]) ∧ Fresh tRule w w' [.int .i64 x.Start, .int .i64 x.End, .bool x.Frame, .int .i64 x.Depth] x ∧ Gro w w'
theorem tRule_mkOd {w : World} {x : DRule} (h0 : I64 x.Start) (h1 : I64 x.End) (h3 : I64 x.Depth) : tRule.O w [.int .i64 x.Start, .int .i64 x.End, .bool x.Frame, .int .i64 x.Depth] x ([]) := by
  have h : tRule.O w [.int .i64 x.Start, .int .i64 x.End, .bool x.Frame, .int .i64 x.Depth] x ([] ++ ([] ++ ([] ++ []))) := ⟨[.int .i64 x.Start], [.int .i64 x.End, .bool x.Frame, .int .i64 x.Depth], [], ([] ++ ([] ++ [])), rfl, rfl, ⟨rfl, h0.1, h0.2, rfl⟩, ⟨[.int .i64 x.End], [.bool x.Frame, .int .i64 x.Depth], [], ([] ++ []), rfl, rfl, ⟨rfl, h1.1, h1.2, rfl⟩, ⟨[.bool x.Frame], [.int .i64 x.Depth], [], [], rfl, rfl, ⟨rfl, rfl⟩, ⟨rfl, h3.1, h3.2, rfl⟩⟩⟩⟩
  simpa using h
theorem eq_DRule {x y : DRule} : x = y ↔ x.Start = y.Start ∧ x.End = y.End ∧ x.Frame = y.Frame ∧ x.Depth = y.Depth := by
  cases x
  cases y
  simp
set_option maxRecDepth 100000 in
theorem toRule_l {x : DRule} {w : World} (h0 : I64 x.Start) (h1 : I64 x.End) (h2 : I64 x.Depth) : Calls Tryz.prog 346 #[.agg #[.int .i64 x.Start, .int .i64 x.End, .bool x.Frame, .int .i64 x.Depth]] w (RetRule x w) := by
  go_enter Tryz.func346, Tryz.ntmps346
  go_wp2
  refine bodyPost_ret (v := .agg #[.int .i64 x.Start, .int .i64 x.End, .bool x.Frame, .int .i64 x.Depth]) (by simp [results, Tryz.results346, go_sem]) rfl ⟨rfl, ?_, gG⟩
  exact ⟨_, tRule_mkOd h0 h1 h2, List.nodup_nil, fun b hb => absurd hb (List.not_mem_nil)⟩
set_option maxRecDepth 100000 in
theorem eqRule_l {x y : DRule} {w : World}  : Calls Tryz.prog 220 #[.agg #[.int .i64 x.Start, .int .i64 x.End, .bool x.Frame, .int .i64 x.Depth], .agg #[.int .i64 y.Start, .int .i64 y.End, .bool y.Frame, .int .i64 y.Depth]] w fun e w' => e = .returned (.bool (decide (x = y))) ∧ Gro w w' := by
  go_enter Tryz.func220, Tryz.ntmps220
  go_wp2
  all_goals
    go_ret
    refine ⟨ret_bool ?_, gG⟩
    simp_all [eq_DRule]
end Go.Proofs.YtgodpjnbhmahaaaGreat
namespace Go.Proofs.YtgodpjnbhmahaaaGreat
open Go.RowKit
theorem atRule {e : TypeId} {w : World} {B : Nat} {A : Option Addr} {n c : Nat} {xs : List DRule} (h : (tRule.sl e).R w B [.slice A n c] xs) {k : Nat} (hk : k < xs.length) :
    ∃ g off x , A = some ⟨g, off, none⟩ ∧ g < B ∧ xs[k]? = some x ∧ w.cell? ⟨g, off + k * 4, none⟩ = some (.int .i64 x.Start) ∧ w.cell? ⟨g, off + k * 4 + 1, none⟩ = some (.int .i64 x.End) ∧ w.cell? ⟨g, off + k * 4 + 2, none⟩ = some (.bool x.Frame) ∧ w.cell? ⟨g, off + k * 4 + 3, none⟩ = some (.int .i64 x.Depth) ∧ I64 x.Start ∧ I64 x.End ∧ I64 x.Depth := by
  obtain ⟨g, off, x, ec, h1, hB, h2, h3, h4⟩ := elem_at h hk
  obtain ⟨rfl, hf⟩ := tRule_R h3
  exact ⟨g, off, x, h1, hB, h2, h4 0 _ rfl, h4 1 _ rfl, h4 2 _ rfl, h4 3 _ rfl, hf⟩
def mkERule (_ : DRule) (k : Int) : DRule := ⟨k, k + 1, ((k + 1 + 1) % 3 == 0), k + 1 + 1 + 1⟩
def mkRuleS (xs : List DRule) (k : Int) : List DRule := mkL mkERule (fun _ => 4) xs k
def cntRuleS (xs : List DRule) : Nat := xs.length * 4
theorem mkRuleS_length (xs : List DRule) (k : Int) : (mkRuleS xs k).length = xs.length := mkL_length _ _
theorem toRuleS_info : (Tryz.prog.info? 254).map (fun i => (i.zero, i.size, i.bytes)) = some (some (.agg #[.int .i64 0, .int .i64 0, .bool false, .int .i64 0]), 4, 32) := by kernel_rfl
theorem szRuleS_l {xs : List DRule} {w : World} {v : Value} {left : Int} (hx : (tRule.sl 254).R w w.heap.size [v] xs) (h0 : 0 ≤ left) (h1 : left ≤ 1099511627776) :
    Calls Tryz.prog 291 #[v, .int .i64 left] w fun e w' => e = .returned (.int .i64 (szRes left xs.length)) ∧ Gro w w' := by
  obtain ⟨A, c, rfl, h2, h3⟩ := sl_at hx
  clear hx
  by_cases h : (xs.length : Int) ≤ left
  · have HR := Lib.hid (show szRes left xs.length = left - xs.length from if_pos h)
    go_enter Tryz.func291, Tryz.ntmps291
    go_wp2
    go_ret
    exact ⟨ret_int HR.out.symm, Gro.refl _⟩
  · have HR := Lib.hid (show szRes left xs.length = -1 from if_neg h)
    go_enter Tryz.func291, Tryz.ntmps291
    go_wp2
    go_ret
    exact ⟨ret_int HR.out.symm, Gro.refl _⟩
set_option maxRecDepth 100000 in
theorem toRuleS_l {xs : List DRule} {w : World} {v : Value} (hx : (tRule.sl 254).R w w.heap.size [v] xs) (hn : xs.length ≤ 1099511627776) :
    Calls Tryz.prog 295 #[v] w (RetSl tRule 254 xs w) := by
  obtain ⟨A, c, rfl, h2, h3⟩ := sl_at hx
  obtain ⟨i0, hi, hz0, hz1, hz2⟩ := info_parts toRuleS_info
  have hn1 : xs.length ≤ 1099511627776 := hn
  have hmk := run_make_rowN (P := Tryz.prog) 93 254 i0 _ Tryz.underlying93 hi hz0 .i64 .i64 xs.length xs.length (Nat.le_refl _) (by rw [hz2]; omega) (by omega)
  rw [hz1] at hmk
  clear hz0 hz1 hz2 hi
  go_enter Tryz.func295, Tryz.ntmps295
  go_wp2_with (fail)
  go_loopw [4] (fun i wr => ∃ (j : Nat) (cur : Array Value) (os : Array Obj) (d : Nat) (S' : List Nat), j ≤ xs.length ∧ i = .int .i64 j ∧ Hid (wr = gro (w.alloc (.cells cur 254)) os d) ∧ Hid (Rows tRule (gro (w.alloc (.cells cur 254)) os d) (cur.toList.take (j * 4)) (xs.take j) S') ∧ Hid (S'.Nodup) ∧ Hid (∀ b ∈ S', w.heap.size + 1 ≤ b) ∧ Hid (cur.size = xs.length * 4)) (fun i _ => xs.length - (intOf i).toNat)
  case atStart => exact ⟨0, _, _, _, [], Nat.zero_le _, rfl, gro_refl, Lib.hid (by simp [Rows]), Lib.hid List.nodup_nil, Lib.hid (by simp), madeCells_size _ _⟩
  case round =>
    obtain ⟨j, cur, os, d, S', hj, rfl, hw, hr, hN, hL, hsz⟩ := hrel
    have hw' := hw.out
    subst hw'
    clear hw hmk
    by_cases hlt : j < xs.length
    · obtain ⟨g, off, x, rfl, hgb, hxk, hx0, hx1, hx2, hx3, bx0, bx1, bx2⟩ := atRule hx hlt
      have hjs : j * 4 + 3 < cur.size := by have := hsz.out; omega
      obtain ⟨o0, ho0⟩ : ∃ u, cur[j * 4]? = some u := ⟨_, Array.getElem?_eq_getElem (by omega)⟩
      obtain ⟨o1, ho1⟩ : ∃ u, (cur.setIfInBounds (j * 4) (.int .i64 x.Start))[j * 4 + 1]? = some u := ⟨_, Array.getElem?_eq_getElem (by simp only [Array.size_setIfInBounds]; omega)⟩
      obtain ⟨o2, ho2⟩ : ∃ u, ((cur.setIfInBounds (j * 4) (.int .i64 x.Start)).setIfInBounds (j * 4 + 1) (.int .i64 x.End))[j * 4 + 2]? = some u := ⟨_, Array.getElem?_eq_getElem (by simp only [Array.size_setIfInBounds]; omega)⟩
      obtain ⟨o3, ho3⟩ : ∃ u, (((cur.setIfInBounds (j * 4) (.int .i64 x.Start)).setIfInBounds (j * 4 + 1) (.int .i64 x.End)).setIfInBounds (j * 4 + 2) (.bool x.Frame))[j * 4 + 3]? = some u := ⟨_, Array.getElem?_eq_getElem (by simp only [Array.size_setIfInBounds]; omega)⟩
      have HX := Lib.hid hxk
      clear hxk hx
      go_wp2_with (fail)
      refine (toRule_l (x := x) bx0 bx1 bx2).mono ?_
      rintro e w1 ⟨rfl, hF, os1, d1, rfl⟩
      go_wp2
      go_roundw
      case rel =>
        rw [gro_gro] at hF
        obtain ⟨S'', h1, h2, h3, h4⟩ := rows_put (T := tRule) hr.out hN.out hL.out hsz.out hlt HX.out hF (by rw [← gro_gro]; exact Gro.of _ _ _)
        exact ⟨j + 1, _, os ++ os1, d1, S'', by omega, by go_num, gro_gro _ _ _ _, h1, h2, h3, h4⟩
      case measure => simp [intOf]; omega
    · have hje : j = xs.length := by omega
      subst hje
      go_wp2
      go_ret
      exact rows_done hr.out hN.out hL.out hsz.out (Nat.le_refl _) (by omega)
set_option maxRecDepth 100000 in
theorem eqRuleS_l {xs ys : List DRule} {w : World} {v u : Value} (hx : (tRule.sl 254).R w w.heap.size [v] xs) (hy : (tRule.sl 254).R w w.heap.size [u] ys) :
    Calls Tryz.prog 132 #[v, u] w fun e w' => e = .returned (.bool (decide (xs = ys))) ∧ Gro w w' := by
  obtain ⟨A, c, rfl, h1, h2⟩ := sl_at hx
  obtain ⟨A', c', rfl, k1, k2⟩ := sl_at hy
  by_cases hl : xs.length = ys.length
  · have hne : ((xs.length : Int) != (ys.length : Int)) = false := by simp [hl]
    have HL := Lib.hid hl
    clear hl
    go_enter Tryz.func132, Tryz.ntmps132
    go_wp2_with (fail)
    go_loopw [5] (fun i wr => ∃ k : Nat, k ≤ xs.length ∧ i = .int .i64 k ∧ Hid (Gro w wr) ∧ Hid (xs.take k = ys.take k)) (fun i _ => xs.length - (intOf i).toNat)
    case atStart => exact ⟨0, Nat.zero_le _, rfl, Gro.refl _, Lib.hid (by simp)⟩
    case round =>
      obtain ⟨k, hk, rfl, hG, HT⟩ := hrel
      obtain ⟨os, d, rfl⟩ := hG.out
      clear hG
      by_cases hlt : k < xs.length
      · have hlt2 : k < ys.length := by rw [← HL.out]; exact hlt
        obtain ⟨g, off, x, rfl, hgb, hxk, hx0, hx1, hx2, hx3, bx0, bx1, bx2⟩ := atRule hx hlt
        obtain ⟨g', off', y, rfl, hgb', hyk, hy0, hy1, hy2, hy3, by0, by1, by2⟩ := atRule hy hlt2
        have HX := Lib.hid hxk
        have HY := Lib.hid hyk
        clear hxk hyk hx hy
        by_cases hxy : x = y
        · subst hxy
          go_wp2_with (fail)
          go_region_held3 (fun w' => w'.cell? ⟨g, off + k * 4, none⟩ = some (.int .i64 x.Start) ∧ w'.cell? ⟨g, off + k * 4 + 1, none⟩ = some (.int .i64 x.End) ∧ w'.cell? ⟨g, off + k * 4 + 2, none⟩ = some (.bool x.Frame) ∧ w'.cell? ⟨g, off + k * 4 + 3, none⟩ = some (.int .i64 x.Depth) ∧ w'.cell? ⟨g', off' + k * 4, none⟩ = some (.int .i64 x.Start) ∧ w'.cell? ⟨g', off' + k * 4 + 1, none⟩ = some (.int .i64 x.End) ∧ w'.cell? ⟨g', off' + k * 4 + 2, none⟩ = some (.bool x.Frame) ∧ w'.cell? ⟨g', off' + k * 4 + 3, none⟩ = some (.int .i64 x.Depth)) ((repeat' apply And.intro) <;> (first | ((repeat (first | assumption | with_reducible refine gro_keeps ?_ _ _ | with_reducible refine alloc_keeps ?_ _ | with_reducible refine drew_keeps ?_)); done) | (simp [go_sem]; done))) (first
            | (go_at_call 220; refine (eqRule_l (x := x) (y := x)).mono ?_; rintro e w1 ⟨rfl, os1, d1, rfl⟩))
          go_wp2
          go_roundw
          case rel => exact ⟨k + 1, by omega, by go_num, Lib.hid gG, Lib.hid (by rw [take_snoc HX.out, take_snoc HY.out, HT.out])⟩
          case measure => simp [intOf]; omega
        · have HXY := Lib.hid (show decide (x = y) = false from by simp [hxy])
          go_wp2_with (fail)
          go_region_held3 (fun w' => w'.cell? ⟨g, off + k * 4, none⟩ = some (.int .i64 x.Start) ∧ w'.cell? ⟨g, off + k * 4 + 1, none⟩ = some (.int .i64 x.End) ∧ w'.cell? ⟨g, off + k * 4 + 2, none⟩ = some (.bool x.Frame) ∧ w'.cell? ⟨g, off + k * 4 + 3, none⟩ = some (.int .i64 x.Depth) ∧ w'.cell? ⟨g', off' + k * 4, none⟩ = some (.int .i64 y.Start) ∧ w'.cell? ⟨g', off' + k * 4 + 1, none⟩ = some (.int .i64 y.End) ∧ w'.cell? ⟨g', off' + k * 4 + 2, none⟩ = some (.bool y.Frame) ∧ w'.cell? ⟨g', off' + k * 4 + 3, none⟩ = some (.int .i64 y.Depth)) ((repeat' apply And.intro) <;> (first | ((repeat (first | assumption | with_reducible refine gro_keeps ?_ _ _ | with_reducible refine alloc_keeps ?_ _ | with_reducible refine drew_keeps ?_)); done) | (simp [go_sem]; done))) (first
            | (go_at_call 220; refine (eqRule_l (x := x) (y := y)).mono ?_; rw [HXY.out]; rintro e w1 ⟨rfl, os1, d1, rfl⟩))
          go_wp2
          go_ret
          refine ⟨ret_bool ?_, gG⟩
          symm
          simp only [decide_eq_false_iff_not]
          rintro rfl
          exact hxy (Option.some.inj (HX.out.symm.trans HY.out))
      · go_wp2
        go_ret
        refine ⟨ret_bool ?_, gG⟩
        have : k = xs.length := by omega
        subst this
        have h1 := HT.out
        rw [HL.out] at h1
        simp only [List.take_length] at h1
        rw [← HL.out] at h1
        simp at h1
        simp [h1]
  · have hne : ((xs.length : Int) != (ys.length : Int)) = true := by simp; omega
    go_enter Tryz.func132, Tryz.ntmps132
    go_wp2
    go_ret
    exact ⟨ret_bool (by symm; simp only [decide_eq_false_iff_not]; rintro rfl; exact hl rfl), Gro.refl _⟩
set_option maxRecDepth 100000 in
set_option maxHeartbeats 2000000 in
theorem markRuleS_l {xs : List DRule} {w : World} {A : Option Addr} {n c : Nat} {k : Int} {S : List Nat} (hO : (tRule.sl 254).O w [.slice A n c] xs S) (hS : S.Nodup) (h0 : 0 < k) (h1 : k + cntRuleS xs ≤ 1099511627776) :
    Calls Tryz.prog 139 #[.slice A n c, .int .i64 k] w fun e w' => e = .returned (.int .i64 (k + cntRuleS xs)) ∧ (tRule.sl 254).O w' [.slice A n c] (mkRuleS xs k) S ∧ OnlyS S w w' := by
  obtain ⟨_, _, hx, h2, h3⟩ := sl_at (Ty.read _ hO)
  injection hx with hA hn hc
  subst hA hn hc
  clear h3
  unfold cntRuleS at h1 ⊢
  go_enter Tryz.func139, Tryz.ntmps139
  go_wp2_with (fail)
  go_loopw [1, 5] (fun a i wr => ∃ (j : Nat), j ≤ xs.length ∧ a = .int .i64 (k + j * 4) ∧ i = .int .i64 j ∧ Hid ((tRule.sl 254).O wr [.slice A xs.length c] (mkTo mkERule (fun _ => 4) xs k j) S) ∧ Hid (OnlyS S w wr)) (fun _ i _ => xs.length - (intOf i).toNat)
  case atStart => exact ⟨0, Nat.zero_le _, by simp, rfl, Lib.hid (by rw [mkTo_zero]; exact hO), OnlyS.refl _ _⟩
  case round =>
    obtain ⟨j, hj, rfl, rfl, ho, hs⟩ := hrel
    by_cases hlt : j < xs.length
    · have hxj : xs[j]? = some xs[j] := List.getElem?_eq_getElem hlt
      obtain ⟨g, ec, Sc, rfl, hgS, hgl, hgc, hSc, hO1, hfz, hcell, hset⟩ := own_put ho.out hS (mkTo_get hxj k)
      generalize hxe : xs[j] = x at hxj hO1
      clear hxe
      obtain ⟨rfl, rfl, _, _, _⟩ := tRule_O hO1
      have hc0 := hcell 0 _ rfl
      have hc1 := hcell 1 _ rfl
      have hc2 := hcell 2 _ rfl
      have hc3 := hcell 3 _ rfl
      simp only [Nat.add_zero, show tRule.size = 4 from rfl] at hc0 hc1 hc2 hc3
      have hf0 := hfz (j * 4)
      have hf1 := hfz (j * 4 + 1)
      have hf2 := hfz (j * 4 + 2)
      have hf3 := hfz (j * 4 + 3)
      have HX := Lib.hid hxj
      have HS := Lib.hid hset
      clear hcell hset hfz hxj hO hO1
      go_wp2_with (first | (go_at_call 105; refine (markText_l _ (by omega) (by omega) _).mono ?_; rintro e w1 ⟨rfl, os, d, rfl⟩))
      go_roundw
      case rel =>
        have h := HS.out [.int .i64 (k + j * 4), .int .i64 (k + j * 4 + 1), .bool (((k + j * 4 + 1 + 1) % 3 == 0)), .int .i64 (k + j * 4 + 1 + 1 + 1)] (mkERule x (k + j * 4)) (tRule_mkOd (x := mkERule x (k + j * 4)) (show I64 (k + j * 4) from ⟨by omega, by omega⟩) (show I64 (k + j * 4 + 1) from ⟨by omega, by omega⟩) (show I64 (k + j * 4 + 1 + 1 + 1) from ⟨by omega, by omega⟩))
        have e := mkTo_set (mk := mkERule) (cnt := fun _ => 4) HX.out k
        rw [cntL_const_take 4 (by omega), Int.natCast_mul] at e
        rw [show mkERule x (k + j * 4) = mkERule x (k + (j : Int) * ((4 : Nat) : Int)) from rfl, e] at h
        exact ⟨j + 1, by omega, by go_num, by go_num, Lib.hid h.1, Lib.hid (hs.out.trans h.2)⟩
      case measure => simp [intOf]; omega
    · go_wp2
      have : j = xs.length := by omega
      subst this
      have ho' := ho.out
      rw [mkTo_all] at ho'
      go_ret
      exact ⟨rfl, ho', hs.out⟩
end Go.Proofs.YtgodpjnbhmahaaaGreat
namespace Go.Proofs.YtgodpjnbhmahaaaGreat
open Go.RowKit
def RetRow (x : DRow) (w : World) (r : Ending) (w' : World) : Prop := r = .returned (.agg #[.int .i64 x.Offset, .int .i64 x.Line, .bool x.Start]) ∧ Fresh tRow w w' [.int .i64 x.Offset, .int .i64 x.Line, .bool x.Start] x ∧ Gro w w'
theorem tRow_mkOd {w : World} {x : DRow} (h0 : I64 x.Offset) (h1 : I64 x.Line) : tRow.O w [.int .i64 x.Offset, .int .i64 x.Line, .bool x.Start] x ([]) := by
  have h : tRow.O w [.int .i64 x.Offset, .int .i64 x.Line, .bool x.Start] x ([] ++ ([] ++ [])) := ⟨[.int .i64 x.Offset], [.int .i64 x.Line, .bool x.Start], [], ([] ++ []), rfl, rfl, ⟨rfl, h0.1, h0.2, rfl⟩, ⟨[.int .i64 x.Line], [.bool x.Start], [], [], rfl, rfl, ⟨rfl, h1.1, h1.2, rfl⟩, ⟨rfl, rfl⟩⟩⟩
  simpa using h
theorem eq_DRow {x y : DRow} : x = y ↔ x.Offset = y.Offset ∧ x.Line = y.Line ∧ x.Start = y.Start := by
  cases x
  cases y
  simp
set_option maxRecDepth 100000 in
theorem toRow_l {x : DRow} {w : World} (h0 : I64 x.Offset) (h1 : I64 x.Line) : Calls Tryz.prog 347 #[.agg #[.int .i64 x.Offset, .int .i64 x.Line, .bool x.Start]] w (RetRow x w) := by
  go_enter Tryz.func347, Tryz.ntmps347
  go_wp2
  refine bodyPost_ret (v := .agg #[.int .i64 x.Offset, .int .i64 x.Line, .bool x.Start]) (by simp [results, Tryz.results347, go_sem]) rfl ⟨rfl, ?_, gG⟩
  exact ⟨_, tRow_mkOd h0 h1, List.nodup_nil, fun b hb => absurd hb (List.not_mem_nil)⟩
set_option maxRecDepth 100000 in
theorem eqRow_l {x y : DRow} {w : World}  : Calls Tryz.prog 221 #[.agg #[.int .i64 x.Offset, .int .i64 x.Line, .bool x.Start], .agg #[.int .i64 y.Offset, .int .i64 y.Line, .bool y.Start]] w fun e w' => e = .returned (.bool (decide (x = y))) ∧ Gro w w' := by
  go_enter Tryz.func221, Tryz.ntmps221
  go_wp2
  all_goals
    go_ret
    refine ⟨ret_bool ?_, gG⟩
    simp_all [eq_DRow]
end Go.Proofs.YtgodpjnbhmahaaaGreat
namespace Go.Proofs.YtgodpjnbhmahaaaGreat
open Go.RowKit
theorem atRow {e : TypeId} {w : World} {B : Nat} {A : Option Addr} {n c : Nat} {xs : List DRow} (h : (tRow.sl e).R w B [.slice A n c] xs) {k : Nat} (hk : k < xs.length) :
    ∃ g off x , A = some ⟨g, off, none⟩ ∧ g < B ∧ xs[k]? = some x ∧ w.cell? ⟨g, off + k * 3, none⟩ = some (.int .i64 x.Offset) ∧ w.cell? ⟨g, off + k * 3 + 1, none⟩ = some (.int .i64 x.Line) ∧ w.cell? ⟨g, off + k * 3 + 2, none⟩ = some (.bool x.Start) ∧ I64 x.Offset ∧ I64 x.Line := by
  obtain ⟨g, off, x, ec, h1, hB, h2, h3, h4⟩ := elem_at h hk
  obtain ⟨rfl, hf⟩ := tRow_R h3
  exact ⟨g, off, x, h1, hB, h2, h4 0 _ rfl, h4 1 _ rfl, h4 2 _ rfl, hf⟩
def mkERow (_ : DRow) (k : Int) : DRow := ⟨k, k + 1, ((k + 1 + 1) % 3 == 0)⟩
def mkRowS (xs : List DRow) (k : Int) : List DRow := mkL mkERow (fun _ => 3) xs k
def cntRowS (xs : List DRow) : Nat := xs.length * 3
theorem mkRowS_length (xs : List DRow) (k : Int) : (mkRowS xs k).length = xs.length := mkL_length _ _
theorem toRowS_info : (Tryz.prog.info? 256).map (fun i => (i.zero, i.size, i.bytes)) = some (some (.agg #[.int .i64 0, .int .i64 0, .bool false]), 3, 24) := by kernel_rfl
theorem szRowS_l {xs : List DRow} {w : World} {v : Value} {left : Int} (hx : (tRow.sl 256).R w w.heap.size [v] xs) (h0 : 0 ≤ left) (h1 : left ≤ 1099511627776) :
    Calls Tryz.prog 292 #[v, .int .i64 left] w fun e w' => e = .returned (.int .i64 (szRes left xs.length)) ∧ Gro w w' := by
  obtain ⟨A, c, rfl, h2, h3⟩ := sl_at hx
  clear hx
  by_cases h : (xs.length : Int) ≤ left
  · have HR := Lib.hid (show szRes left xs.length = left - xs.length from if_pos h)
    go_enter Tryz.func292, Tryz.ntmps292
    go_wp2
    go_ret
    exact ⟨ret_int HR.out.symm, Gro.refl _⟩
  · have HR := Lib.hid (show szRes left xs.length = -1 from if_neg h)
    go_enter Tryz.func292, Tryz.ntmps292
    go_wp2
    go_ret
    exact ⟨ret_int HR.out.symm, Gro.refl _⟩
set_option maxRecDepth 100000 in
theorem toRowS_l {xs : List DRow} {w : World} {v : Value} (hx : (tRow.sl 256).R w w.heap.size [v] xs) (hn : xs.length ≤ 1099511627776) :
    Calls Tryz.prog 296 #[v] w (RetSl tRow 256 xs w) := by
  obtain ⟨A, c, rfl, h2, h3⟩ := sl_at hx
  obtain ⟨i0, hi, hz0, hz1, hz2⟩ := info_parts toRowS_info
  have hn1 : xs.length ≤ 1099511627776 := hn
  have hmk := run_make_rowN (P := Tryz.prog) 94 256 i0 _ Tryz.underlying94 hi hz0 .i64 .i64 xs.length xs.length (Nat.le_refl _) (by rw [hz2]; omega) (by omega)
  rw [hz1] at hmk
  clear hz0 hz1 hz2 hi
  go_enter Tryz.func296, Tryz.ntmps296
  go_wp2_with (fail)
  go_loopw [4] (fun i wr => ∃ (j : Nat) (cur : Array Value) (os : Array Obj) (d : Nat) (S' : List Nat), j ≤ xs.length ∧ i = .int .i64 j ∧ Hid (wr = gro (w.alloc (.cells cur 256)) os d) ∧ Hid (Rows tRow (gro (w.alloc (.cells cur 256)) os d) (cur.toList.take (j * 3)) (xs.take j) S') ∧ Hid (S'.Nodup) ∧ Hid (∀ b ∈ S', w.heap.size + 1 ≤ b) ∧ Hid (cur.size = xs.length * 3)) (fun i _ => xs.length - (intOf i).toNat)
  case atStart => exact ⟨0, _, _, _, [], Nat.zero_le _, rfl, gro_refl, Lib.hid (by simp [Rows]), Lib.hid List.nodup_nil, Lib.hid (by simp), madeCells_size _ _⟩
  case round =>
    obtain ⟨j, cur, os, d, S', hj, rfl, hw, hr, hN, hL, hsz⟩ := hrel
    have hw' := hw.out
    subst hw'
    clear hw hmk
    by_cases hlt : j < xs.length
    · obtain ⟨g, off, x, rfl, hgb, hxk, hx0, hx1, hx2, bx0, bx1⟩ := atRow hx hlt
      have hjs : j * 3 + 2 < cur.size := by have := hsz.out; omega
      obtain ⟨o0, ho0⟩ : ∃ u, cur[j * 3]? = some u := ⟨_, Array.getElem?_eq_getElem (by omega)⟩
      obtain ⟨o1, ho1⟩ : ∃ u, (cur.setIfInBounds (j * 3) (.int .i64 x.Offset))[j * 3 + 1]? = some u := ⟨_, Array.getElem?_eq_getElem (by simp only [Array.size_setIfInBounds]; omega)⟩
      obtain ⟨o2, ho2⟩ : ∃ u, ((cur.setIfInBounds (j * 3) (.int .i64 x.Offset)).setIfInBounds (j * 3 + 1) (.int .i64 x.Line))[j * 3 + 2]? = some u := ⟨_, Array.getElem?_eq_getElem (by simp only [Array.size_setIfInBounds]; omega)⟩
      have HX := Lib.hid hxk
      clear hxk hx
      go_wp2_with (fail)
      refine (toRow_l (x := x) bx0 bx1).mono ?_
      rintro e w1 ⟨rfl, hF, os1, d1, rfl⟩
      go_wp2
      go_roundw
      case rel =>
        rw [gro_gro] at hF
        obtain ⟨S'', h1, h2, h3, h4⟩ := rows_put (T := tRow) hr.out hN.out hL.out hsz.out hlt HX.out hF (by rw [← gro_gro]; exact Gro.of _ _ _)
        exact ⟨j + 1, _, os ++ os1, d1, S'', by omega, by go_num, gro_gro _ _ _ _, h1, h2, h3, h4⟩
      case measure => simp [intOf]; omega
    · have hje : j = xs.length := by omega
      subst hje
      go_wp2
      go_ret
      exact rows_done hr.out hN.out hL.out hsz.out (Nat.le_refl _) (by omega)
set_option maxRecDepth 100000 in
theorem eqRowS_l {xs ys : List DRow} {w : World} {v u : Value} (hx : (tRow.sl 256).R w w.heap.size [v] xs) (hy : (tRow.sl 256).R w w.heap.size [u] ys) :
    Calls Tryz.prog 133 #[v, u] w fun e w' => e = .returned (.bool (decide (xs = ys))) ∧ Gro w w' := by
  obtain ⟨A, c, rfl, h1, h2⟩ := sl_at hx
  obtain ⟨A', c', rfl, k1, k2⟩ := sl_at hy
  by_cases hl : xs.length = ys.length
  · have hne : ((xs.length : Int) != (ys.length : Int)) = false := by simp [hl]
    have HL := Lib.hid hl
    clear hl
    go_enter Tryz.func133, Tryz.ntmps133
    go_wp2_with (fail)
    go_loopw [5] (fun i wr => ∃ k : Nat, k ≤ xs.length ∧ i = .int .i64 k ∧ Hid (Gro w wr) ∧ Hid (xs.take k = ys.take k)) (fun i _ => xs.length - (intOf i).toNat)
    case atStart => exact ⟨0, Nat.zero_le _, rfl, Gro.refl _, Lib.hid (by simp)⟩
    case round =>
      obtain ⟨k, hk, rfl, hG, HT⟩ := hrel
      obtain ⟨os, d, rfl⟩ := hG.out
      clear hG
      by_cases hlt : k < xs.length
      · have hlt2 : k < ys.length := by rw [← HL.out]; exact hlt
        obtain ⟨g, off, x, rfl, hgb, hxk, hx0, hx1, hx2, bx0, bx1⟩ := atRow hx hlt
        obtain ⟨g', off', y, rfl, hgb', hyk, hy0, hy1, hy2, by0, by1⟩ := atRow hy hlt2
        have HX := Lib.hid hxk
        have HY := Lib.hid hyk
        clear hxk hyk hx hy
        by_cases hxy : x = y
        · subst hxy
          go_wp2_with (fail)
          go_region_held3 (fun w' => w'.cell? ⟨g, off + k * 3, none⟩ = some (.int .i64 x.Offset) ∧ w'.cell? ⟨g, off + k * 3 + 1, none⟩ = some (.int .i64 x.Line) ∧ w'.cell? ⟨g, off + k * 3 + 2, none⟩ = some (.bool x.Start) ∧ w'.cell? ⟨g', off' + k * 3, none⟩ = some (.int .i64 x.Offset) ∧ w'.cell? ⟨g', off' + k * 3 + 1, none⟩ = some (.int .i64 x.Line) ∧ w'.cell? ⟨g', off' + k * 3 + 2, none⟩ = some (.bool x.Start)) ((repeat' apply And.intro) <;> (first | ((repeat (first | assumption | with_reducible refine gro_keeps ?_ _ _ | with_reducible refine alloc_keeps ?_ _ | with_reducible refine drew_keeps ?_)); done) | (simp [go_sem]; done))) (first
            | (go_at_call 221; refine (eqRow_l (x := x) (y := x)).mono ?_; rintro e w1 ⟨rfl, os1, d1, rfl⟩))
          go_wp2
          go_roundw
          case rel => exact ⟨k + 1, by omega, by go_num, Lib.hid gG, Lib.hid (by rw [take_snoc HX.out, take_snoc HY.out, HT.out])⟩
          case measure => simp [intOf]; omega
        · have HXY := Lib.hid (show decide (x = y) = false from by simp [hxy])
          go_wp2_with (fail)
          go_region_held3 (fun w' => w'.cell? ⟨g, off + k * 3, none⟩ = some (.int .i64 x.Offset) ∧ w'.cell? ⟨g, off + k * 3 + 1, none⟩ = some (.int .i64 x.Line) ∧ w'.cell? ⟨g, off + k * 3 + 2, none⟩ = some (.bool x.Start) ∧ w'.cell? ⟨g', off' + k * 3, none⟩ = some (.int .i64 y.Offset) ∧ w'.cell? ⟨g', off' + k * 3 + 1, none⟩ = some (.int .i64 y.Line) ∧ w'.cell? ⟨g', off' + k * 3 + 2, none⟩ = some (.bool y.Start)) ((repeat' apply And.intro) <;> (first | ((repeat (first | assumption | with_reducible refine gro_keeps ?_ _ _ | with_reducible refine alloc_keeps ?_ _ | with_reducible refine drew_keeps ?_)); done) | (simp [go_sem]; done))) (first
            | (go_at_call 221; refine (eqRow_l (x := x) (y := y)).mono ?_; rw [HXY.out]; rintro e w1 ⟨rfl, os1, d1, rfl⟩))
          go_wp2
          go_ret
          refine ⟨ret_bool ?_, gG⟩
          symm
          simp only [decide_eq_false_iff_not]
          rintro rfl
          exact hxy (Option.some.inj (HX.out.symm.trans HY.out))
      · go_wp2
        go_ret
        refine ⟨ret_bool ?_, gG⟩
        have : k = xs.length := by omega
        subst this
        have h1 := HT.out
        rw [HL.out] at h1
        simp only [List.take_length] at h1
        rw [← HL.out] at h1
        simp at h1
        simp [h1]
  · have hne : ((xs.length : Int) != (ys.length : Int)) = true := by simp; omega
    go_enter Tryz.func133, Tryz.ntmps133
    go_wp2
    go_ret
    exact ⟨ret_bool (by symm; simp only [decide_eq_false_iff_not]; rintro rfl; exact hl rfl), Gro.refl _⟩
set_option maxRecDepth 100000 in
set_option maxHeartbeats 2000000 in
theorem markRowS_l {xs : List DRow} {w : World} {A : Option Addr} {n c : Nat} {k : Int} {S : List Nat} (hO : (tRow.sl 256).O w [.slice A n c] xs S) (hS : S.Nodup) (h0 : 0 < k) (h1 : k + cntRowS xs ≤ 1099511627776) :
    Calls Tryz.prog 140 #[.slice A n c, .int .i64 k] w fun e w' => e = .returned (.int .i64 (k + cntRowS xs)) ∧ (tRow.sl 256).O w' [.slice A n c] (mkRowS xs k) S ∧ OnlyS S w w' := by
  obtain ⟨_, _, hx, h2, h3⟩ := sl_at (Ty.read _ hO)
  injection hx with hA hn hc
  subst hA hn hc
  clear h3
  unfold cntRowS at h1 ⊢
  go_enter Tryz.func140, Tryz.ntmps140
  go_wp2_with (fail)
  go_loopw [1, 5] (fun a i wr => ∃ (j : Nat), j ≤ xs.length ∧ a = .int .i64 (k + j * 3) ∧ i = .int .i64 j ∧ Hid ((tRow.sl 256).O wr [.slice A xs.length c] (mkTo mkERow (fun _ => 3) xs k j) S) ∧ Hid (OnlyS S w wr)) (fun _ i _ => xs.length - (intOf i).toNat)
  case atStart => exact ⟨0, Nat.zero_le _, by simp, rfl, Lib.hid (by rw [mkTo_zero]; exact hO), OnlyS.refl _ _⟩
  case round =>
    obtain ⟨j, hj, rfl, rfl, ho, hs⟩ := hrel
    by_cases hlt : j < xs.length
    · have hxj : xs[j]? = some xs[j] := List.getElem?_eq_getElem hlt
      obtain ⟨g, ec, Sc, rfl, hgS, hgl, hgc, hSc, hO1, hfz, hcell, hset⟩ := own_put ho.out hS (mkTo_get hxj k)
      generalize hxe : xs[j] = x at hxj hO1
      clear hxe
      obtain ⟨rfl, rfl, _, _⟩ := tRow_O hO1
      have hc0 := hcell 0 _ rfl
      have hc1 := hcell 1 _ rfl
      have hc2 := hcell 2 _ rfl
      simp only [Nat.add_zero, show tRow.size = 3 from rfl] at hc0 hc1 hc2
      have hf0 := hfz (j * 3)
      have hf1 := hfz (j * 3 + 1)
      have hf2 := hfz (j * 3 + 2)
      have HX := Lib.hid hxj
      have HS := Lib.hid hset
      clear hcell hset hfz hxj hO hO1
      go_wp2_with (first | (go_at_call 105; refine (markText_l _ (by omega) (by omega) _).mono ?_; rintro e w1 ⟨rfl, os, d, rfl⟩))
      go_roundw
      case rel =>
        have h := HS.out [.int .i64 (k + j * 3), .int .i64 (k + j * 3 + 1), .bool (((k + j * 3 + 1 + 1) % 3 == 0))] (mkERow x (k + j * 3)) (tRow_mkOd (x := mkERow x (k + j * 3)) (show I64 (k + j * 3) from ⟨by omega, by omega⟩) (show I64 (k + j * 3 + 1) from ⟨by omega, by omega⟩))
        have e := mkTo_set (mk := mkERow) (cnt := fun _ => 3) HX.out k
        rw [cntL_const_take 3 (by omega), Int.natCast_mul] at e
        rw [show mkERow x (k + j * 3) = mkERow x (k + (j : Int) * ((3 : Nat) : Int)) from rfl, e] at h
        exact ⟨j + 1, by omega, by go_num, by go_num, Lib.hid h.1, Lib.hid (hs.out.trans h.2)⟩
      case measure => simp [intOf]; omega
    · go_wp2
      have : j = xs.length := by omega
      subst this
      have ho' := ho.out
      rw [mkTo_all] at ho'
      go_ret
      exact ⟨rfl, ho', hs.out⟩
end Go.Proofs.YtgodpjnbhmahaaaGreat
namespace Go.Proofs.YtgodpjnbhmahaaaGreat
open Go.RowKit
def RetDebug (x : DDebug) (w : World) (r : Ending) (w' : World) : Prop := ∃ A0 c0 A1 c1 A2 c2 A3 c3, r = .returned (.agg #[.int .i64 x.Id, .slice A0 x.Symbols.length c0, .slice A1 x.Rules.length c1, .slice A2 x.Rows.length c2, .slice A3 x.Inlines.length c3]) ∧ Fresh tDebug w w' [.int .i64 x.Id, .slice A0 x.Symbols.length c0, .slice A1 x.Rules.length c1, .slice A2 x.Rows.length c2, .slice A3 x.Inlines.length c3] x ∧ Gro w w'
theorem tDebug_mkOd {w : World} {x : DDebug} {A0 : Option Addr} {c0 : Nat} {A1 : Option Addr} {c1 : Nat} {A2 : Option Addr} {c2 : Nat} {A3 : Option Addr} {c3 : Nat} {S1 : List Nat} {S2 : List Nat} {S3 : List Nat} {S4 : List Nat} (h0 : I64 x.Id) (h1 : (tSymbol.sl 193).O w [.slice A0 x.Symbols.length c0] x.Symbols S1) (h2 : (tRule.sl 254).O w [.slice A1 x.Rules.length c1] x.Rules S2) (h3 : (tRow.sl 256).O w [.slice A2 x.Rows.length c2] x.Rows S3) (h4 : (tInline.sl 260).O w [.slice A3 x.Inlines.length c3] x.Inlines S4) : tDebug.O w [.int .i64 x.Id, .slice A0 x.Symbols.length c0, .slice A1 x.Rules.length c1, .slice A2 x.Rows.length c2, .slice A3 x.Inlines.length c3] x (S1 ++ S2 ++ S3 ++ S4) := by
  have h : tDebug.O w [.int .i64 x.Id, .slice A0 x.Symbols.length c0, .slice A1 x.Rules.length c1, .slice A2 x.Rows.length c2, .slice A3 x.Inlines.length c3] x ([] ++ (S1 ++ (S2 ++ (S3 ++ S4)))) := ⟨[.int .i64 x.Id], [.slice A0 x.Symbols.length c0, .slice A1 x.Rules.length c1, .slice A2 x.Rows.length c2, .slice A3 x.Inlines.length c3], [], (S1 ++ (S2 ++ (S3 ++ S4))), rfl, rfl, ⟨rfl, h0.1, h0.2, rfl⟩, ⟨[.slice A0 x.Symbols.length c0], [.slice A1 x.Rules.length c1, .slice A2 x.Rows.length c2, .slice A3 x.Inlines.length c3], S1, (S2 ++ (S3 ++ S4)), rfl, rfl, h1, ⟨[.slice A1 x.Rules.length c1], [.slice A2 x.Rows.length c2, .slice A3 x.Inlines.length c3], S2, (S3 ++ S4), rfl, rfl, h2, ⟨[.slice A2 x.Rows.length c2], [.slice A3 x.Inlines.length c3], S3, S4, rfl, rfl, h3, h4⟩⟩⟩⟩
  simpa using h
theorem eq_DDebug {x y : DDebug} : x = y ↔ x.Id = y.Id ∧ x.Symbols = y.Symbols ∧ x.Rules = y.Rules ∧ x.Rows = y.Rows ∧ x.Inlines = y.Inlines := by
  cases x
  cases y
  simp
def szDebug (x : DDebug) : Nat := szL szSymbol x.Symbols + x.Rules.length + x.Rows.length + szL szInline x.Inlines
set_option maxRecDepth 100000 in
theorem toDebug_l {x : DDebug} {w : World} {A0 : Option Addr} {c0 : Nat} {A1 : Option Addr} {c1 : Nat} {A2 : Option Addr} {c2 : Nat} {A3 : Option Addr} {c3 : Nat} (h0 : I64 x.Id) (h1 : (tSymbol.sl 193).R w w.heap.size [.slice A0 x.Symbols.length c0] x.Symbols) (h2 : (tRule.sl 254).R w w.heap.size [.slice A1 x.Rules.length c1] x.Rules) (h3 : (tRow.sl 256).R w w.heap.size [.slice A2 x.Rows.length c2] x.Rows) (h4 : (tInline.sl 260).R w w.heap.size [.slice A3 x.Inlines.length c3] x.Inlines) (hn : szDebug x ≤ 1099511627776) : Calls Tryz.prog 187 #[.agg #[.int .i64 x.Id, .slice A0 x.Symbols.length c0, .slice A1 x.Rules.length c1, .slice A2 x.Rows.length c2, .slice A3 x.Inlines.length c3]] w (RetDebug x w) := by
  unfold szDebug at hn
  go_enter Tryz.func187, Tryz.ntmps187
  go_wp2_with (first
      | (go_at_call 294; (with_reducible refine (toSymbolS_l (xs := x.Symbols) (Ty.up _ h1 gG) (by omega)).mono ?_); rintro e w1 ⟨B0, d0, rfl, hF1, os1, dd1, rfl⟩)
      | (go_at_call 295; (with_reducible refine (toRuleS_l (xs := x.Rules) (Ty.up _ h2 gG) (by omega)).mono ?_); rintro e w2 ⟨B1, d1, rfl, hF2, os2, dd2, rfl⟩)
      | (go_at_call 296; (with_reducible refine (toRowS_l (xs := x.Rows) (Ty.up _ h3 gG) (by omega)).mono ?_); rintro e w3 ⟨B2, d2, rfl, hF3, os3, dd3, rfl⟩)
      | (go_at_call 297; (with_reducible refine (toInlineS_l (xs := x.Inlines) (Ty.up _ h4 gG) (by omega)).mono ?_); rintro e w4 ⟨B3, d3, rfl, hF4, os4, dd4, rfl⟩))
  refine bodyPost_ret (v := .agg #[.int .i64 x.Id, .slice B0 x.Symbols.length d0, .slice B1 x.Rules.length d1, .slice B2 x.Rows.length d2, .slice B3 x.Inlines.length d3]) (by simp [results, Tryz.results187, go_sem]) rfl ⟨B0, d0, B1, d1, B2, d2, B3, d3, rfl, ?_, gG⟩
  obtain ⟨S1, hO1, hN1, hL1⟩ := hF1
  obtain ⟨S2, hO2, hN2, hL2⟩ := hF2
  obtain ⟨S3, hO3, hN3, hL3⟩ := hF3
  obtain ⟨S4, hO4, hN4, hL4⟩ := hF4
  have hU1 := Ty.ltO _ hO1
  have hL1' := hL1
  have hU2 := Ty.ltO _ hO2
  have hL2' := hL2
  have hU3 := Ty.ltO _ hO3
  have hL3' := hL3
  have hU4 := Ty.ltO _ hO4
  have hL4' := hL4
  simp at hL1' hU1 hL2' hU2 hL3' hU3 hL4' hU4
  exact ⟨_, tDebug_mkOd h0 (Ty.same _ hO1 hL1 (by repeat (first | with_reducible exact Same.refl _ _ _ | ((with_reducible refine Same.base ?_ ?_) <;> (simp <;> omega)) | ((with_reducible refine Same.more ?_ ?_ _ _); rotate_left; simp <;> omega) | ((with_reducible refine Same.alloc ?_ ?_ _); rotate_left; simp <;> omega) | with_reducible apply Same.drew | with_reducible apply Same.drewN))) (Ty.same _ hO2 hL2 (by repeat (first | with_reducible exact Same.refl _ _ _ | ((with_reducible refine Same.base ?_ ?_) <;> (simp <;> omega)) | ((with_reducible refine Same.more ?_ ?_ _ _); rotate_left; simp <;> omega) | ((with_reducible refine Same.alloc ?_ ?_ _); rotate_left; simp <;> omega) | with_reducible apply Same.drew | with_reducible apply Same.drewN))) (Ty.same _ hO3 hL3 (by repeat (first | with_reducible exact Same.refl _ _ _ | ((with_reducible refine Same.base ?_ ?_) <;> (simp <;> omega)) | ((with_reducible refine Same.more ?_ ?_ _ _); rotate_left; simp <;> omega) | ((with_reducible refine Same.alloc ?_ ?_ _); rotate_left; simp <;> omega) | with_reducible apply Same.drew | with_reducible apply Same.drewN))) (Ty.same _ hO4 hL4 (by repeat (first | with_reducible exact Same.refl _ _ _ | ((with_reducible refine Same.base ?_ ?_) <;> (simp <;> omega)) | ((with_reducible refine Same.more ?_ ?_ _ _); rotate_left; simp <;> omega) | ((with_reducible refine Same.alloc ?_ ?_ _); rotate_left; simp <;> omega) | with_reducible apply Same.drew | with_reducible apply Same.drewN))), List.nodup_append.2 ⟨List.nodup_append.2 ⟨List.nodup_append.2 ⟨hN1, hN2, fun a ha b hb => (by have h1 := hU1 a ha; have h2 := hL2' b hb; omega)⟩, hN3, fun a ha b hb => (List.mem_append.1 ha).elim (fun ha => (by have h1 := hU1 a ha; have h2 := hL3' b hb; omega)) (fun ha => (by have h1 := hU2 a ha; have h2 := hL3' b hb; omega))⟩, hN4, fun a ha b hb => (List.mem_append.1 ha).elim (fun ha => (List.mem_append.1 ha).elim (fun ha => (by have h1 := hU1 a ha; have h2 := hL4' b hb; omega)) (fun ha => (by have h1 := hU2 a ha; have h2 := hL4' b hb; omega))) (fun ha => (by have h1 := hU3 a ha; have h2 := hL4' b hb; omega))⟩, fun b hb => (List.mem_append.1 hb).elim (fun hb => (List.mem_append.1 hb).elim (fun hb => (List.mem_append.1 hb).elim (fun hb => (by have := hL1' b hb; omega)) (fun hb => (by have := hL2' b hb; omega))) (fun hb => (by have := hL3' b hb; omega))) (fun hb => (by have := hL4' b hb; omega))⟩
set_option maxRecDepth 100000 in
theorem szDebug_l {x : DDebug} {w : World} {left : Int} {A0 : Option Addr} {c0 : Nat} {A1 : Option Addr} {c1 : Nat} {A2 : Option Addr} {c2 : Nat} {A3 : Option Addr} {c3 : Nat} (h1 : (tSymbol.sl 193).R w w.heap.size [.slice A0 x.Symbols.length c0] x.Symbols) (h2 : (tRule.sl 254).R w w.heap.size [.slice A1 x.Rules.length c1] x.Rules) (h3 : (tRow.sl 256).R w w.heap.size [.slice A2 x.Rows.length c2] x.Rows) (h4 : (tInline.sl 260).R w w.heap.size [.slice A3 x.Inlines.length c3] x.Inlines) (h00 : 0 ≤ left) (h01 : left ≤ 1099511627776) : Calls Tryz.prog 186 #[.agg #[.int .i64 x.Id, .slice A0 x.Symbols.length c0, .slice A1 x.Rules.length c1, .slice A2 x.Rows.length c2, .slice A3 x.Inlines.length c3], .int .i64 left] w fun e w' => e = .returned (.int .i64 (szRes left (szDebug x))) ∧ Gro w w' := by
  obtain ⟨n0, hn0⟩ : ∃ n, szL szSymbol x.Symbols = n := ⟨_, rfl⟩
  obtain ⟨n3, hn3⟩ : ∃ n, szL szInline x.Inlines = n := ⟨_, rfl⟩
  have HS := Lib.hid (show szDebug x = n0 + x.Rules.length + x.Rows.length + n3 from by unfold szDebug; rw [hn0, hn3])
  have HN0 := Lib.hid hn0
  clear hn0
  have HN3 := Lib.hid hn3
  clear hn3
  by_cases c0' : (n0 : Int) ≤ left
  · skip
    by_cases c1' : (n0 : Int) + (x.Rules.length : Int) ≤ left
    · skip
      by_cases c2' : (n0 : Int) + (x.Rules.length : Int) + (x.Rows.length : Int) ≤ left
      · skip
        by_cases c3' : (n0 : Int) + (x.Rules.length : Int) + (x.Rows.length : Int) + (n3 : Int) ≤ left
        · skip
          have e0 : szRes (left) n0 = left - (n0 : Nat) := if_pos (by omega)
          have e1 : szRes (left - (n0 : Nat)) x.Rules.length = left - (n0 : Nat) - (x.Rules.length : Nat) := if_pos (by omega)
          have e2 : szRes (left - (n0 : Nat) - (x.Rules.length : Nat)) x.Rows.length = left - (n0 : Nat) - (x.Rules.length : Nat) - (x.Rows.length : Nat) := if_pos (by omega)
          have e3 : szRes (left - (n0 : Nat) - (x.Rules.length : Nat) - (x.Rows.length : Nat)) n3 = left - (n0 : Nat) - (x.Rules.length : Nat) - (x.Rows.length : Nat) - (n3 : Nat) := if_pos (by omega)
          go_enter Tryz.func186, Tryz.ntmps186
          go_wp2_with (first
      | (go_at_call 290; (with_reducible refine (szSymbolS_l (xs := x.Symbols) (Ty.up _ h1 gG) (by omega) (by omega)).mono ?_); rintro e w0 ⟨rfl, os0, d0, rfl⟩; rw [HN0.out])
      | (go_at_call 291; (with_reducible refine (szRuleS_l (xs := x.Rules) (Ty.up _ h2 gG) (by omega) (by omega)).mono ?_); rintro e w1 ⟨rfl, os1, d1, rfl⟩)
      | (go_at_call 292; (with_reducible refine (szRowS_l (xs := x.Rows) (Ty.up _ h3 gG) (by omega) (by omega)).mono ?_); rintro e w2 ⟨rfl, os2, d2, rfl⟩)
      | (go_at_call 293; (with_reducible refine (szInlineS_l (xs := x.Inlines) (Ty.up _ h4 gG) (by omega) (by omega)).mono ?_); rintro e w3 ⟨rfl, os3, d3, rfl⟩; rw [HN3.out]))
          go_ret
          exact ⟨ret_int (by rw [HS.out]; unfold szRes; rw [if_pos (by omega)] <;> omega), gG⟩
        · have e0 : szRes (left) n0 = left - (n0 : Nat) := if_pos (by omega)
          have e1 : szRes (left - (n0 : Nat)) x.Rules.length = left - (n0 : Nat) - (x.Rules.length : Nat) := if_pos (by omega)
          have e2 : szRes (left - (n0 : Nat) - (x.Rules.length : Nat)) x.Rows.length = left - (n0 : Nat) - (x.Rules.length : Nat) - (x.Rows.length : Nat) := if_pos (by omega)
          have e3 : szRes (left - (n0 : Nat) - (x.Rules.length : Nat) - (x.Rows.length : Nat)) n3 = -1 := if_neg (by omega)
          go_enter Tryz.func186, Tryz.ntmps186
          go_wp2_with (first
      | (go_at_call 290; (with_reducible refine (szSymbolS_l (xs := x.Symbols) (Ty.up _ h1 gG) (by omega) (by omega)).mono ?_); rintro e w0 ⟨rfl, os0, d0, rfl⟩; rw [HN0.out])
      | (go_at_call 291; (with_reducible refine (szRuleS_l (xs := x.Rules) (Ty.up _ h2 gG) (by omega) (by omega)).mono ?_); rintro e w1 ⟨rfl, os1, d1, rfl⟩)
      | (go_at_call 292; (with_reducible refine (szRowS_l (xs := x.Rows) (Ty.up _ h3 gG) (by omega) (by omega)).mono ?_); rintro e w2 ⟨rfl, os2, d2, rfl⟩)
      | (go_at_call 293; (with_reducible refine (szInlineS_l (xs := x.Inlines) (Ty.up _ h4 gG) (by omega) (by omega)).mono ?_); rintro e w3 ⟨rfl, os3, d3, rfl⟩; rw [HN3.out]))
          go_ret
          exact ⟨ret_int (by rw [HS.out]; unfold szRes; rw [if_neg (by omega)]), gG⟩
      · have e0 : szRes (left) n0 = left - (n0 : Nat) := if_pos (by omega)
        have e1 : szRes (left - (n0 : Nat)) x.Rules.length = left - (n0 : Nat) - (x.Rules.length : Nat) := if_pos (by omega)
        have e2 : szRes (left - (n0 : Nat) - (x.Rules.length : Nat)) x.Rows.length = -1 := if_neg (by omega)
        go_enter Tryz.func186, Tryz.ntmps186
        go_wp2_with (first
      | (go_at_call 290; (with_reducible refine (szSymbolS_l (xs := x.Symbols) (Ty.up _ h1 gG) (by omega) (by omega)).mono ?_); rintro e w0 ⟨rfl, os0, d0, rfl⟩; rw [HN0.out])
      | (go_at_call 291; (with_reducible refine (szRuleS_l (xs := x.Rules) (Ty.up _ h2 gG) (by omega) (by omega)).mono ?_); rintro e w1 ⟨rfl, os1, d1, rfl⟩)
      | (go_at_call 292; (with_reducible refine (szRowS_l (xs := x.Rows) (Ty.up _ h3 gG) (by omega) (by omega)).mono ?_); rintro e w2 ⟨rfl, os2, d2, rfl⟩))
        go_ret
        exact ⟨ret_int (by rw [HS.out]; unfold szRes; rw [if_neg (by omega)]), gG⟩
    · have e0 : szRes (left) n0 = left - (n0 : Nat) := if_pos (by omega)
      have e1 : szRes (left - (n0 : Nat)) x.Rules.length = -1 := if_neg (by omega)
      go_enter Tryz.func186, Tryz.ntmps186
      go_wp2_with (first
      | (go_at_call 290; (with_reducible refine (szSymbolS_l (xs := x.Symbols) (Ty.up _ h1 gG) (by omega) (by omega)).mono ?_); rintro e w0 ⟨rfl, os0, d0, rfl⟩; rw [HN0.out])
      | (go_at_call 291; (with_reducible refine (szRuleS_l (xs := x.Rules) (Ty.up _ h2 gG) (by omega) (by omega)).mono ?_); rintro e w1 ⟨rfl, os1, d1, rfl⟩))
      go_ret
      exact ⟨ret_int (by rw [HS.out]; unfold szRes; rw [if_neg (by omega)]), gG⟩
  · have e0 : szRes (left) n0 = -1 := if_neg (by omega)
    go_enter Tryz.func186, Tryz.ntmps186
    go_wp2_with (first
      | (go_at_call 290; (with_reducible refine (szSymbolS_l (xs := x.Symbols) (Ty.up _ h1 gG) (by omega) (by omega)).mono ?_); rintro e w0 ⟨rfl, os0, d0, rfl⟩; rw [HN0.out]))
    go_ret
    exact ⟨ret_int (by rw [HS.out]; unfold szRes; rw [if_neg (by omega)]), gG⟩
set_option maxRecDepth 100000 in
theorem eqDebug_l {x y : DDebug} {w : World} {A0 : Option Addr} {c0 : Nat} {A1 : Option Addr} {c1 : Nat} {A2 : Option Addr} {c2 : Nat} {A3 : Option Addr} {c3 : Nat} {B0 : Option Addr} {d0 : Nat} {B1 : Option Addr} {d1 : Nat} {B2 : Option Addr} {d2 : Nat} {B3 : Option Addr} {d3 : Nat} (h1 : (tSymbol.sl 193).R w w.heap.size [.slice A0 x.Symbols.length c0] x.Symbols) (h2 : (tRule.sl 254).R w w.heap.size [.slice A1 x.Rules.length c1] x.Rules) (h3 : (tRow.sl 256).R w w.heap.size [.slice A2 x.Rows.length c2] x.Rows) (h4 : (tInline.sl 260).R w w.heap.size [.slice A3 x.Inlines.length c3] x.Inlines) (k1 : (tSymbol.sl 193).R w w.heap.size [.slice B0 y.Symbols.length d0] y.Symbols) (k2 : (tRule.sl 254).R w w.heap.size [.slice B1 y.Rules.length d1] y.Rules) (k3 : (tRow.sl 256).R w w.heap.size [.slice B2 y.Rows.length d2] y.Rows) (k4 : (tInline.sl 260).R w w.heap.size [.slice B3 y.Inlines.length d3] y.Inlines) : Calls Tryz.prog 54 #[.agg #[.int .i64 x.Id, .slice A0 x.Symbols.length c0, .slice A1 x.Rules.length c1, .slice A2 x.Rows.length c2, .slice A3 x.Inlines.length c3], .agg #[.int .i64 y.Id, .slice B0 y.Symbols.length d0, .slice B1 y.Rules.length d1, .slice B2 y.Rows.length d2, .slice B3 y.Inlines.length d3]] w fun e w' => e = .returned (.bool (decide (x = y))) ∧ Gro w w' := by
  go_enter Tryz.func54, Tryz.ntmps54
  go_wp2_with (first
      | (go_at_call 131; (with_reducible refine (eqSymbolS_l (xs := x.Symbols) (ys := y.Symbols) (Ty.up _ h1 gG) (Ty.up _ k1 gG)).mono ?_); rintro e w1 ⟨rfl, os1, d1, rfl⟩)
      | (go_at_call 132; (with_reducible refine (eqRuleS_l (xs := x.Rules) (ys := y.Rules) (Ty.up _ h2 gG) (Ty.up _ k2 gG)).mono ?_); rintro e w2 ⟨rfl, os2, d2, rfl⟩)
      | (go_at_call 133; (with_reducible refine (eqRowS_l (xs := x.Rows) (ys := y.Rows) (Ty.up _ h3 gG) (Ty.up _ k3 gG)).mono ?_); rintro e w3 ⟨rfl, os3, d3, rfl⟩)
      | (go_at_call 134; (with_reducible refine (eqInlineS_l (xs := x.Inlines) (ys := y.Inlines) (Ty.up _ h4 gG) (Ty.up _ k4 gG)).mono ?_); rintro e w4 ⟨rfl, os4, d4, rfl⟩))
  all_goals
    go_ret
    refine ⟨ret_bool ?_, gG⟩
    simp_all [eq_DDebug]
end Go.Proofs.YtgodpjnbhmahaaaGreat
namespace Go.Proofs.YtgodpjnbhmahaaaGreat
open Go.RowKit
theorem atDebug {e : TypeId} {w : World} {B : Nat} {A : Option Addr} {n c : Nat} {xs : List DDebug} (h : (tDebug.sl e).R w B [.slice A n c] xs) {k : Nat} (hk : k < xs.length) :
    ∃ g off x A0 c0 A1 c1 A2 c2 A3 c3, A = some ⟨g, off, none⟩ ∧ g < B ∧ xs[k]? = some x ∧ w.cell? ⟨g, off + k * 5, none⟩ = some (.int .i64 x.Id) ∧ w.cell? ⟨g, off + k * 5 + 1, none⟩ = some (.slice A0 x.Symbols.length c0) ∧ w.cell? ⟨g, off + k * 5 + 2, none⟩ = some (.slice A1 x.Rules.length c1) ∧ w.cell? ⟨g, off + k * 5 + 3, none⟩ = some (.slice A2 x.Rows.length c2) ∧ w.cell? ⟨g, off + k * 5 + 4, none⟩ = some (.slice A3 x.Inlines.length c3) ∧ I64 x.Id ∧ (tSymbol.sl 193).R w B [.slice A0 x.Symbols.length c0] x.Symbols ∧ (tRule.sl 254).R w B [.slice A1 x.Rules.length c1] x.Rules ∧ (tRow.sl 256).R w B [.slice A2 x.Rows.length c2] x.Rows ∧ (tInline.sl 260).R w B [.slice A3 x.Inlines.length c3] x.Inlines := by
  obtain ⟨g, off, x, ec, h1, hB, h2, h3, h4⟩ := elem_at h hk
  obtain ⟨A0, c0, A1, c1, A2, c2, A3, c3, rfl, hf⟩ := tDebug_R h3
  exact ⟨g, off, x, A0, c0, A1, c1, A2, c2, A3, c3, h1, hB, h2, h4 0 _ rfl, h4 1 _ rfl, h4 2 _ rfl, h4 3 _ rfl, h4 4 _ rfl, hf⟩
def mkEDebug (x : DDebug) (k : Int) : DDebug := ⟨k, mkSymbolS x.Symbols (k + 1), mkRuleS x.Rules (k + 1 + (cntSymbolS x.Symbols : Nat)), mkRowS x.Rows (k + 1 + (cntSymbolS x.Symbols : Nat) + (cntRuleS x.Rules : Nat)), mkInlineS x.Inlines (k + 1 + (cntSymbolS x.Symbols : Nat) + (cntRuleS x.Rules : Nat) + (cntRowS x.Rows : Nat))⟩
def cntEDebug (x : DDebug) : Nat := 1 + cntSymbolS x.Symbols + cntRuleS x.Rules + cntRowS x.Rows + cntInlineS x.Inlines
def mkDebugS (xs : List DDebug) (k : Int) : List DDebug := mkL mkEDebug cntEDebug xs k
def cntDebugS (xs : List DDebug) : Nat := cntL cntEDebug xs
theorem mkDebugS_length (xs : List DDebug) (k : Int) : (mkDebugS xs k).length = xs.length := mkL_length _ _
theorem cntEDebug_eq (x : DDebug) : cntEDebug x = 1 + cntSymbolS x.Symbols + cntRuleS x.Rules + cntRowS x.Rows + cntInlineS x.Inlines := rfl
theorem toDebugS_info : (Tryz.prog.info? 97).map (fun i => (i.zero, i.size, i.bytes)) = some (some (.agg #[.int .i64 0, .slice none 0 0, .slice none 0 0, .slice none 0 0, .slice none 0 0]), 5, 104) := by kernel_rfl
set_option maxRecDepth 100000 in
theorem szDebugS_l {xs : List DDebug} {w : World} {v : Value} {left : Int} (hx : (tDebug.sl 97).R w w.heap.size [v] xs) (h0 : 0 ≤ left) (h1 : left ≤ 1099511627776) :
    Calls Tryz.prog 96 #[v, .int .i64 left] w fun e w' => e = .returned (.int .i64 (szRes left (szL szDebug xs))) ∧ Gro w w' := by
  obtain ⟨A, c, rfl, h2, h3⟩ := sl_at hx
  by_cases h : (xs.length : Int) ≤ left
  · go_enter Tryz.func96, Tryz.ntmps96
    go_wp2_with (fail)
    go_loopw [1, 5] (fun a i wr => ∃ (j s : Nat), j ≤ xs.length ∧ Hid (s = ((xs.take j).map szDebug).sum) ∧ (xs.length : Int) + s ≤ left ∧ a = .int .i64 (left - xs.length - s) ∧ i = .int .i64 j ∧ Hid (Gro w wr)) (fun _ i _ => xs.length - (intOf i).toNat)
    case atStart => exact ⟨0, 0, Nat.zero_le _, rfl, by omega, by simp, rfl, Gro.refl _⟩
    case round =>
      obtain ⟨j, s, hj, hs, hle, rfl, rfl, hG⟩ := hrel
      obtain ⟨os, d, rfl⟩ := hG.out
      clear hG
      by_cases hlt : j < xs.length
      · obtain ⟨g, off, x, A0, c0, A1, c1, A2, c2, A3, c3, rfl, hgb, hxk, hx0, hx1, hx2, hx3, hx4, bx0, bx1, bx2, bx3, bx4⟩ := atDebug hx hlt
        have HX := Lib.hid (szSnoc szDebug hxk)
        have HM := Lib.hid (szLe szDebug xs (j + 1))
        obtain ⟨n0, hn0⟩ : ∃ n, szDebug x = n := ⟨_, rfl⟩
        have HN := Lib.hid hn0
        clear hxk hx hn0
        by_cases hsz : (xs.length : Int) + s + n0 ≤ left
        · have HR := Lib.hid (show szRes (left - xs.length - s) n0 = left - xs.length - s - n0 from if_pos (by omega))
          go_wp2_with (go_at_call 186; refine (szDebug_l (x := x) (Ty.up _ bx1 gG) (Ty.up _ bx2 gG) (Ty.up _ bx3 gG) (Ty.up _ bx4 gG) (by omega) (by omega)).mono ?_; rw [HN.out, HR.out]; rintro e w1 ⟨rfl, os1, d1, rfl⟩)
          go_roundw
          case rel => exact ⟨j + 1, s + n0, by omega, Lib.hid (by rw [hs.out, HX.out, HN.out]), by omega, by go_num, by go_num, Lib.hid gG⟩
          case measure => simp [intOf]; omega
        · have HR := Lib.hid (show szRes (left - xs.length - s) n0 = -1 from if_neg (by omega))
          have HQ := Lib.hid (show szRes left (szL szDebug xs) = -1 from if_neg (by have h1 := HX.out; have h2 := HM.out; have h3 := hs.out; have h4 := HN.out; unfold szL; omega))
          go_wp2_with (go_at_call 186; refine (szDebug_l (x := x) (Ty.up _ bx1 gG) (Ty.up _ bx2 gG) (Ty.up _ bx3 gG) (Ty.up _ bx4 gG) (by omega) (by omega)).mono ?_; rw [HN.out, HR.out]; rintro e w1 ⟨rfl, os1, d1, rfl⟩)
          go_ret
          exact ⟨ret_int HQ.out.symm, gG⟩
      · go_wp2
        go_ret
        exact ⟨ret_int (by
          have h3 := hs.out
          rw [szAll szDebug (show j = xs.length by omega)] at h3
          unfold szRes szL
          rw [if_pos (by omega)]
          omega), gG⟩
  · have HR := Lib.hid (show szRes left (szL szDebug xs) = -1 from if_neg (by unfold szL; omega))
    go_enter Tryz.func96, Tryz.ntmps96
    go_wp2
    go_ret
    exact ⟨ret_int HR.out.symm, Gro.refl _⟩
set_option maxHeartbeats 8000000 in
set_option maxRecDepth 100000 in
theorem toDebugS_l {xs : List DDebug} {w : World} {v : Value} (hx : (tDebug.sl 97).R w w.heap.size [v] xs) (hn : szL szDebug xs ≤ 1099511627776) :
    Calls Tryz.prog 98 #[v] w (RetSl tDebug 97 xs w) := by
  obtain ⟨A, c, rfl, h2, h3⟩ := sl_at hx
  obtain ⟨i0, hi, hz0, hz1, hz2⟩ := info_parts toDebugS_info
  have hn1 : xs.length ≤ 1099511627776 := Nat.le_trans (szL_len _ _) hn
  have hmk := run_make_rowN (P := Tryz.prog) 29 97 i0 _ Tryz.underlying29 hi hz0 .i64 .i64 xs.length xs.length (Nat.le_refl _) (by rw [hz2]; omega) (by omega)
  rw [hz1] at hmk
  clear hz0 hz1 hz2 hi
  go_enter Tryz.func98, Tryz.ntmps98
  go_wp2_with (fail)
  go_loopw [4] (fun i wr => ∃ (j : Nat) (cur : Array Value) (os : Array Obj) (d : Nat) (S' : List Nat), j ≤ xs.length ∧ i = .int .i64 j ∧ Hid (wr = gro (w.alloc (.cells cur 97)) os d) ∧ Hid (Rows tDebug (gro (w.alloc (.cells cur 97)) os d) (cur.toList.take (j * 5)) (xs.take j) S') ∧ Hid (S'.Nodup) ∧ Hid (∀ b ∈ S', w.heap.size + 1 ≤ b) ∧ Hid (cur.size = xs.length * 5)) (fun i _ => xs.length - (intOf i).toNat)
  case atStart => exact ⟨0, _, _, _, [], Nat.zero_le _, rfl, gro_refl, Lib.hid (by simp [Rows]), Lib.hid List.nodup_nil, Lib.hid (by simp), madeCells_size _ _⟩
  case round =>
    obtain ⟨j, cur, os, d, S', hj, rfl, hw, hr, hN, hL, hsz⟩ := hrel
    have hw' := hw.out
    subst hw'
    clear hw hmk
    by_cases hlt : j < xs.length
    · obtain ⟨g, off, x, A0, c0, A1, c1, A2, c2, A3, c3, rfl, hgb, hxk, hx0, hx1, hx2, hx3, hx4, bx0, bx1, bx2, bx3, bx4⟩ := atDebug hx hlt
      have hjs : j * 5 + 4 < cur.size := by have := hsz.out; omega
      have HX := Lib.hid hxk
      have hszx : szDebug x ≤ 1099511627776 := Nat.le_trans (szL_elem szDebug hxk) hn
      clear hxk hx
      go_wp2_with (fail)
      refine (toDebug_l (x := x) bx0 (Ty.up _ bx1 gG) (Ty.up _ bx2 gG) (Ty.up _ bx3 gG) (Ty.up _ bx4 gG) hszx).mono ?_
      rintro e w1 ⟨B0, f0, B1, f1, B2, f2, B3, f3, rfl, hF, os1, d1, rfl⟩
      obtain ⟨o0, ho0⟩ : ∃ u, cur[j * 5]? = some u := ⟨_, Array.getElem?_eq_getElem (by omega)⟩
      obtain ⟨o1, ho1⟩ : ∃ u, (cur.setIfInBounds (j * 5) (.int .i64 x.Id))[j * 5 + 1]? = some u := ⟨_, Array.getElem?_eq_getElem (by simp only [Array.size_setIfInBounds]; omega)⟩
      obtain ⟨o2, ho2⟩ : ∃ u, ((cur.setIfInBounds (j * 5) (.int .i64 x.Id)).setIfInBounds (j * 5 + 1) (.slice B0 x.Symbols.length f0))[j * 5 + 2]? = some u := ⟨_, Array.getElem?_eq_getElem (by simp only [Array.size_setIfInBounds]; omega)⟩
      obtain ⟨o3, ho3⟩ : ∃ u, (((cur.setIfInBounds (j * 5) (.int .i64 x.Id)).setIfInBounds (j * 5 + 1) (.slice B0 x.Symbols.length f0)).setIfInBounds (j * 5 + 2) (.slice B1 x.Rules.length f1))[j * 5 + 3]? = some u := ⟨_, Array.getElem?_eq_getElem (by simp only [Array.size_setIfInBounds]; omega)⟩
      obtain ⟨o4, ho4⟩ : ∃ u, ((((cur.setIfInBounds (j * 5) (.int .i64 x.Id)).setIfInBounds (j * 5 + 1) (.slice B0 x.Symbols.length f0)).setIfInBounds (j * 5 + 2) (.slice B1 x.Rules.length f1)).setIfInBounds (j * 5 + 3) (.slice B2 x.Rows.length f2))[j * 5 + 4]? = some u := ⟨_, Array.getElem?_eq_getElem (by simp only [Array.size_setIfInBounds]; omega)⟩
      go_wp2
      go_roundw
      case rel =>
        rw [gro_gro] at hF
        obtain ⟨S'', h1, h2, h3, h4⟩ := rows_put (T := tDebug) hr.out hN.out hL.out hsz.out hlt HX.out hF (by rw [← gro_gro]; exact Gro.of _ _ _)
        exact ⟨j + 1, _, os ++ os1, d1, S'', by omega, by go_num, gro_gro _ _ _ _, h1, h2, h3, h4⟩
      case measure => simp [intOf]; omega
    · have hje : j = xs.length := by omega
      subst hje
      go_wp2
      go_ret
      exact rows_done hr.out hN.out hL.out hsz.out (Nat.le_refl _) (by omega)
set_option maxHeartbeats 8000000 in
set_option maxRecDepth 100000 in
theorem eqDebugS_l {xs ys : List DDebug} {w : World} {v u : Value} (hx : (tDebug.sl 97).R w w.heap.size [v] xs) (hy : (tDebug.sl 97).R w w.heap.size [u] ys) :
    Calls Tryz.prog 101 #[v, u] w fun e w' => e = .returned (.bool (decide (xs = ys))) ∧ Gro w w' := by
  obtain ⟨A, c, rfl, h1, h2⟩ := sl_at hx
  obtain ⟨A', c', rfl, k1, k2⟩ := sl_at hy
  by_cases hl : xs.length = ys.length
  · have hne : ((xs.length : Int) != (ys.length : Int)) = false := by simp [hl]
    have HL := Lib.hid hl
    clear hl
    go_enter Tryz.func101, Tryz.ntmps101
    go_wp2_with (fail)
    go_loopw [5] (fun i wr => ∃ k : Nat, k ≤ xs.length ∧ i = .int .i64 k ∧ Hid (Gro w wr) ∧ Hid (xs.take k = ys.take k)) (fun i _ => xs.length - (intOf i).toNat)
    case atStart => exact ⟨0, Nat.zero_le _, rfl, Gro.refl _, Lib.hid (by simp)⟩
    case round =>
      obtain ⟨k, hk, rfl, hG, HT⟩ := hrel
      obtain ⟨os, d, rfl⟩ := hG.out
      clear hG
      by_cases hlt : k < xs.length
      · have hlt2 : k < ys.length := by rw [← HL.out]; exact hlt
        obtain ⟨g, off, x, A0, c0, A1, c1, A2, c2, A3, c3, rfl, hgb, hxk, hx0, hx1, hx2, hx3, hx4, bx0, bx1, bx2, bx3, bx4⟩ := atDebug hx hlt
        obtain ⟨g', off', y, B0, e0, B1, e1, B2, e2, B3, e3, rfl, hgb', hyk, hy0, hy1, hy2, hy3, hy4, by0, by1, by2, by3, by4⟩ := atDebug hy hlt2
        have HX := Lib.hid hxk
        have HY := Lib.hid hyk
        clear hxk hyk hx hy
        by_cases hxy : x = y
        · subst hxy
          go_wp2_with (fail)
          go_region_held3 (fun w' => w'.cell? ⟨g, off + k * 5, none⟩ = some (.int .i64 x.Id) ∧ w'.cell? ⟨g, off + k * 5 + 1, none⟩ = some (.slice A0 x.Symbols.length c0) ∧ w'.cell? ⟨g, off + k * 5 + 2, none⟩ = some (.slice A1 x.Rules.length c1) ∧ w'.cell? ⟨g, off + k * 5 + 3, none⟩ = some (.slice A2 x.Rows.length c2) ∧ w'.cell? ⟨g, off + k * 5 + 4, none⟩ = some (.slice A3 x.Inlines.length c3) ∧ w'.cell? ⟨g', off' + k * 5, none⟩ = some (.int .i64 x.Id) ∧ w'.cell? ⟨g', off' + k * 5 + 1, none⟩ = some (.slice B0 x.Symbols.length e0) ∧ w'.cell? ⟨g', off' + k * 5 + 2, none⟩ = some (.slice B1 x.Rules.length e1) ∧ w'.cell? ⟨g', off' + k * 5 + 3, none⟩ = some (.slice B2 x.Rows.length e2) ∧ w'.cell? ⟨g', off' + k * 5 + 4, none⟩ = some (.slice B3 x.Inlines.length e3)) ((repeat' apply And.intro) <;> (first | ((repeat (first | assumption | with_reducible refine gro_keeps ?_ _ _ | with_reducible refine alloc_keeps ?_ _ | with_reducible refine drew_keeps ?_)); done) | (simp [go_sem]; done))) (first
            | (go_at_call 54; refine (eqDebug_l (x := x) (y := x) (Ty.up _ bx1 gG) (Ty.up _ bx2 gG) (Ty.up _ bx3 gG) (Ty.up _ bx4 gG) (Ty.up _ by1 gG) (Ty.up _ by2 gG) (Ty.up _ by3 gG) (Ty.up _ by4 gG)).mono ?_; rintro e w1 ⟨rfl, os1, d1, rfl⟩))
          go_wp2
          go_roundw
          case rel => exact ⟨k + 1, by omega, by go_num, Lib.hid gG, Lib.hid (by rw [take_snoc HX.out, take_snoc HY.out, HT.out])⟩
          case measure => simp [intOf]; omega
        · have HXY := Lib.hid (show decide (x = y) = false from by simp [hxy])
          go_wp2_with (fail)
          go_region_held3 (fun w' => w'.cell? ⟨g, off + k * 5, none⟩ = some (.int .i64 x.Id) ∧ w'.cell? ⟨g, off + k * 5 + 1, none⟩ = some (.slice A0 x.Symbols.length c0) ∧ w'.cell? ⟨g, off + k * 5 + 2, none⟩ = some (.slice A1 x.Rules.length c1) ∧ w'.cell? ⟨g, off + k * 5 + 3, none⟩ = some (.slice A2 x.Rows.length c2) ∧ w'.cell? ⟨g, off + k * 5 + 4, none⟩ = some (.slice A3 x.Inlines.length c3) ∧ w'.cell? ⟨g', off' + k * 5, none⟩ = some (.int .i64 y.Id) ∧ w'.cell? ⟨g', off' + k * 5 + 1, none⟩ = some (.slice B0 y.Symbols.length e0) ∧ w'.cell? ⟨g', off' + k * 5 + 2, none⟩ = some (.slice B1 y.Rules.length e1) ∧ w'.cell? ⟨g', off' + k * 5 + 3, none⟩ = some (.slice B2 y.Rows.length e2) ∧ w'.cell? ⟨g', off' + k * 5 + 4, none⟩ = some (.slice B3 y.Inlines.length e3)) ((repeat' apply And.intro) <;> (first | ((repeat (first | assumption | with_reducible refine gro_keeps ?_ _ _ | with_reducible refine alloc_keeps ?_ _ | with_reducible refine drew_keeps ?_)); done) | (simp [go_sem]; done))) (first
            | (go_at_call 54; refine (eqDebug_l (x := x) (y := y) (Ty.up _ bx1 gG) (Ty.up _ bx2 gG) (Ty.up _ bx3 gG) (Ty.up _ bx4 gG) (Ty.up _ by1 gG) (Ty.up _ by2 gG) (Ty.up _ by3 gG) (Ty.up _ by4 gG)).mono ?_; rw [HXY.out]; rintro e w1 ⟨rfl, os1, d1, rfl⟩))
          go_wp2
          go_ret
          refine ⟨ret_bool ?_, gG⟩
          symm
          simp only [decide_eq_false_iff_not]
          rintro rfl
          exact hxy (Option.some.inj (HX.out.symm.trans HY.out))
      · go_wp2
        go_ret
        refine ⟨ret_bool ?_, gG⟩
        have : k = xs.length := by omega
        subst this
        have h1 := HT.out
        rw [HL.out] at h1
        simp only [List.take_length] at h1
        rw [← HL.out] at h1
        simp at h1
        simp [h1]
  · have hne : ((xs.length : Int) != (ys.length : Int)) = true := by simp; omega
    go_enter Tryz.func101, Tryz.ntmps101
    go_wp2
    go_ret
    exact ⟨ret_bool (by symm; simp only [decide_eq_false_iff_not]; rintro rfl; exact hl rfl), Gro.refl _⟩
set_option maxRecDepth 100000 in
set_option maxHeartbeats 4000000 in
theorem markDebugS_l {xs : List DDebug} {w : World} {A : Option Addr} {n c : Nat} {k : Int} {S : List Nat} (hO : (tDebug.sl 97).O w [.slice A n c] xs S) (hS : S.Nodup) (h0 : 0 < k) (h1 : k + (cntDebugS xs : Nat) ≤ 1099511627776) :
    Calls Tryz.prog 103 #[.slice A n c, .int .i64 k] w fun e w' => e = .returned (.int .i64 (k + (cntDebugS xs : Nat))) ∧ (tDebug.sl 97).O w' [.slice A n c] (mkDebugS xs k) S ∧ OnlyS S w w' := by
  obtain ⟨_, _, hx, h2, h3⟩ := sl_at (Ty.read _ hO)
  injection hx with hA hn hc
  subst hA hn hc
  have h3c := h3
  clear h3
  unfold cntDebugS at h1 ⊢
  go_enter Tryz.func103, Tryz.ntmps103
  go_wp2_with (fail)
  go_loopw [1, 5] (fun a i wr => ∃ (j q : Nat), j ≤ xs.length ∧ a = .int .i64 (k + q) ∧ i = .int .i64 j ∧ Hid (cntL cntEDebug (xs.take j) = q) ∧ Hid ((tDebug.sl 97).O wr [.slice A xs.length c] (mkTo mkEDebug cntEDebug xs k j) S) ∧ Hid (OnlyS S w wr)) (fun _ i _ => xs.length - (intOf i).toNat)
  case atStart => exact ⟨0, 0, Nat.zero_le _, by simp, rfl, Lib.hid (by simp [cntL]), Lib.hid (by rw [mkTo_zero]; exact hO), OnlyS.refl _ _⟩
  case round =>
    obtain ⟨j, q, hj, rfl, rfl, hq, ho, hs⟩ := hrel
    by_cases hlt : j < xs.length
    · have hxj : xs[j]? = some xs[j] := List.getElem?_eq_getElem hlt
      obtain ⟨g, ec, Sc, cur, rfl, hgS, hgl, hgc, hSc, hNc, hO1, hb, hcs, hcell, hset⟩ := own_mix ho.out hS (mkTo_get hxj k)
      generalize hxe : xs[j] = x at hxj hO1
      clear hxe
      have hqs : q + cntEDebug x ≤ cntL cntEDebug xs := by
        have := cntL_snoc (cnt := cntEDebug) hxj
        have h9 := cntL_take_le (cnt := cntEDebug) xs (j + 1)
        have := hq.out
        omega
      have hq2 := Lib.hid (show cntL cntEDebug (xs.take (j + 1)) = q + cntEDebug x from by rw [cntL_snoc hxj, hq.out])
      rw [cntEDebug_eq] at hqs
      obtain ⟨A0, c0, S0, A1, c1, S1, A2, c2, S2, A3, c3, S3, hcl, rfl, _, hO0, hO1, hO2, hO3⟩ := tDebug_O hO1
      subst hcl
      have hr0 := hcell 0 _ rfl
      have hr1 := hcell 1 _ rfl
      have hr2 := hcell 2 _ rfl
      have hr3 := hcell 3 _ rfl
      have hr4 := hcell 4 _ rfl
      simp only [Nat.add_zero, show tDebug.size = 5 from rfl] at hcs hset hr0 hr1 hr2 hr3 hr4
      have hc0 : wr.cell? ⟨g, j * 5, none⟩ = some (.int .i64 x.Id) := (cell_of_row wr g _ cur _ (0, 0) hb).trans hr0
      have hc1 : wr.cell? ⟨g, j * 5 + 1, none⟩ = some (.slice A0 x.Symbols.length c0) := (cell_of_row wr g _ cur _ (0, 0) hb).trans hr1
      have hc2 : wr.cell? ⟨g, j * 5 + 2, none⟩ = some (.slice A1 x.Rules.length c1) := (cell_of_row wr g _ cur _ (0, 0) hb).trans hr2
      have hc3 : wr.cell? ⟨g, j * 5 + 3, none⟩ = some (.slice A2 x.Rows.length c2) := (cell_of_row wr g _ cur _ (0, 0) hb).trans hr3
      have hc4 : wr.cell? ⟨g, j * 5 + 4, none⟩ = some (.slice A3 x.Inlines.length c3) := (cell_of_row wr g _ cur _ (0, 0) hb).trans hr4
      have hf0 := frz_blk hb (j * 5)
      have hf1 := frz_blk hb (j * 5 + 1)
      have hf2 := frz_blk hb (j * 5 + 2)
      have hf3 := frz_blk hb (j * 5 + 3)
      have hf4 := frz_blk hb (j * 5 + 4)
      have HX := Lib.hid hxj
      have HS := Lib.hid hset
      obtain ⟨hN0, hN1, hN2, hN3, hD01, hD02, hD03, hD10, hD12, hD13, hD20, hD21, hD23, hD30, hD31, hD32⟩ := nd4 hNc
      clear hcell hset hxj hO hO1
      have hL0 := Ty.ltO _ hO0
      have hg0 : g ∉ S0 := fun hm => hgc (by simp [hm])
      have hL1 := Ty.ltO _ hO1
      have hg1 : g ∉ S1 := fun hm => hgc (by simp [hm])
      have hL2 := Ty.ltO _ hO2
      have hg2 : g ∉ S2 := fun hm => hgc (by simp [hm])
      have hL3 := Ty.ltO _ hO3
      have hg3 : g ∉ S3 := fun hm => hgc (by simp [hm])
      go_wp2_with (fail)
      refine (markSymbolS_l (xs := x.Symbols) (keepS _ hO0 ((OnlyS.refl [g] wr).setCell (p := ⟨g, _, none⟩) (by simp) _) (not_one hg0)) hN0 (by omega) (by omega)).mono ?_
      rintro e w1 ⟨rfl, hM0, hs1⟩
      have hb1 : w1.heap[g]? = some (.cells (cur.setIfInBounds (j * 5) (.int .i64 (k + (q : Int)))) _ (0, 0)) := (hs1.block g (Nat.lt_of_lt_of_le hgl (((OnlyS.refl [g] wr).setCell (p := ⟨g, _, none⟩) (by simp) _)).size) hg0).trans (heap_setCell_at hb _ _)
      have hon1 : OnlyS ([g] ++ S0) wr w1 := (((OnlyS.refl [g] wr).setCell (p := ⟨g, _, none⟩) (by simp) _).mono (fun b hb => by simp at hb; simp [hb])).trans (hs1.mono (fun b hb => by simp [hb]))
      have hK1_0 := keepS _ (keepS _ hO1 ((OnlyS.refl [g] wr).setCell (p := ⟨g, _, none⟩) (by simp) _) (not_one hg1)) hs1 hD10
      have hK2_0 := keepS _ (keepS _ hO2 ((OnlyS.refl [g] wr).setCell (p := ⟨g, _, none⟩) (by simp) _) (not_one hg2)) hs1 hD20
      have hK3_0 := keepS _ (keepS _ hO3 ((OnlyS.refl [g] wr).setCell (p := ⟨g, _, none⟩) (by simp) _) (not_one hg3)) hs1 hD30
      obtain ⟨cur1, he1⟩ : ∃ c, (cur.setIfInBounds (j * 5) (.int .i64 (k + (q : Int)))) = c := ⟨_, rfl⟩
      rw [he1] at hb1
      have hr1_0 : cur1[j * 5]? = some (.int .i64 (k + (q : Int))) := by rw [← he1]; exact Array.getElem?_setIfInBounds_self_of_lt (by (try simp only [Array.size_setIfInBounds]); omega)
      have hc1_0 : w1.cell? ⟨g, j * 5, none⟩ = some (.int .i64 (k + (q : Int))) := (cell_of_row w1 g _ cur1 _ (0, 0) hb1).trans hr1_0
      have hf1_0 := frz_blk hb1 (j * 5)
      have hr1_1 : cur1[j * 5 + 1]? = some (.slice A0 x.Symbols.length c0) := by rw [← he1]; rw [Array.getElem?_setIfInBounds_ne (by omega)]; exact hr1
      have hc1_1 : w1.cell? ⟨g, j * 5 + 1, none⟩ = some (.slice A0 x.Symbols.length c0) := (cell_of_row w1 g _ cur1 _ (0, 0) hb1).trans hr1_1
      have hf1_1 := frz_blk hb1 (j * 5 + 1)
      have hr1_2 : cur1[j * 5 + 2]? = some (.slice A1 x.Rules.length c1) := by rw [← he1]; rw [Array.getElem?_setIfInBounds_ne (by omega)]; exact hr2
      have hc1_2 : w1.cell? ⟨g, j * 5 + 2, none⟩ = some (.slice A1 x.Rules.length c1) := (cell_of_row w1 g _ cur1 _ (0, 0) hb1).trans hr1_2
      have hf1_2 := frz_blk hb1 (j * 5 + 2)
      have hr1_3 : cur1[j * 5 + 3]? = some (.slice A2 x.Rows.length c2) := by rw [← he1]; rw [Array.getElem?_setIfInBounds_ne (by omega)]; exact hr3
      have hc1_3 : w1.cell? ⟨g, j * 5 + 3, none⟩ = some (.slice A2 x.Rows.length c2) := (cell_of_row w1 g _ cur1 _ (0, 0) hb1).trans hr1_3
      have hf1_3 := frz_blk hb1 (j * 5 + 3)
      have hr1_4 : cur1[j * 5 + 4]? = some (.slice A3 x.Inlines.length c3) := by rw [← he1]; rw [Array.getElem?_setIfInBounds_ne (by omega)]; exact hr4
      have hc1_4 : w1.cell? ⟨g, j * 5 + 4, none⟩ = some (.slice A3 x.Inlines.length c3) := (cell_of_row w1 g _ cur1 _ (0, 0) hb1).trans hr1_4
      have hf1_4 := frz_blk hb1 (j * 5 + 4)
      have hz1 : cur1.size = cur.size := by (first | (rw [← he1]; done) | (rw [← he1]; simp only [Array.size_setIfInBounds]))
      have ho1 : ∀ i, i < j * 5 ∨ j * 5 + 5 ≤ i → cur1[i]? = cur[i]? := fun i hi => by rw [← he1]; rw [Array.getElem?_setIfInBounds_ne (by omega)]
      have HE1 := Lib.hid he1
      clear he1
      have hgl1 : g < w1.heap.size := Nat.lt_of_lt_of_le hgl hon1.size
      clear hc0 hf0 hc1 hf1 hc2 hf2 hc3 hf3 hc4 hf4
      go_wp2_with (fail)
      refine (markRuleS_l (xs := x.Rules) (keepS _ hK1_0 (OnlyS.refl [g] w1) (not_one hg1)) hN1 (by omega) (by omega)).mono ?_
      rintro e w2 ⟨rfl, hM1, hs2⟩
      have hb2 : w2.heap[g]? = some (.cells cur1 _ (0, 0)) := (hs2.block g (Nat.lt_of_lt_of_le hgl1 ((OnlyS.refl [g] w1)).size) hg1).trans hb1
      have hon2 : OnlyS ([g] ++ S1) w1 w2 := ((OnlyS.refl [g] w1).mono (fun b hb => by simp at hb; simp [hb])).trans (hs2.mono (fun b hb => by simp [hb]))
      have hK0_1 := keepS _ (keepS _ hM0 (OnlyS.refl [g] w1) (not_one hg0)) hs2 hD01
      replace hM0 := hK0_1
      have hK2_1 := keepS _ (keepS _ hK2_0 (OnlyS.refl [g] w1) (not_one hg2)) hs2 hD21
      have hK3_1 := keepS _ (keepS _ hK3_0 (OnlyS.refl [g] w1) (not_one hg3)) hs2 hD31
      obtain ⟨cur2, he2⟩ : ∃ c, cur1 = c := ⟨_, rfl⟩
      rw [he2] at hb2
      have hr2_0 : cur2[j * 5]? = some (.int .i64 (k + (q : Int))) := by rw [← he2]; exact hr1_0
      have hc2_0 : w2.cell? ⟨g, j * 5, none⟩ = some (.int .i64 (k + (q : Int))) := (cell_of_row w2 g _ cur2 _ (0, 0) hb2).trans hr2_0
      have hf2_0 := frz_blk hb2 (j * 5)
      have hr2_1 : cur2[j * 5 + 1]? = some (.slice A0 x.Symbols.length c0) := by rw [← he2]; exact hr1_1
      have hc2_1 : w2.cell? ⟨g, j * 5 + 1, none⟩ = some (.slice A0 x.Symbols.length c0) := (cell_of_row w2 g _ cur2 _ (0, 0) hb2).trans hr2_1
      have hf2_1 := frz_blk hb2 (j * 5 + 1)
      have hr2_2 : cur2[j * 5 + 2]? = some (.slice A1 x.Rules.length c1) := by rw [← he2]; exact hr1_2
      have hc2_2 : w2.cell? ⟨g, j * 5 + 2, none⟩ = some (.slice A1 x.Rules.length c1) := (cell_of_row w2 g _ cur2 _ (0, 0) hb2).trans hr2_2
      have hf2_2 := frz_blk hb2 (j * 5 + 2)
      have hr2_3 : cur2[j * 5 + 3]? = some (.slice A2 x.Rows.length c2) := by rw [← he2]; exact hr1_3
      have hc2_3 : w2.cell? ⟨g, j * 5 + 3, none⟩ = some (.slice A2 x.Rows.length c2) := (cell_of_row w2 g _ cur2 _ (0, 0) hb2).trans hr2_3
      have hf2_3 := frz_blk hb2 (j * 5 + 3)
      have hr2_4 : cur2[j * 5 + 4]? = some (.slice A3 x.Inlines.length c3) := by rw [← he2]; exact hr1_4
      have hc2_4 : w2.cell? ⟨g, j * 5 + 4, none⟩ = some (.slice A3 x.Inlines.length c3) := (cell_of_row w2 g _ cur2 _ (0, 0) hb2).trans hr2_4
      have hf2_4 := frz_blk hb2 (j * 5 + 4)
      have hz2 : cur2.size = cur1.size := by (first | (rw [← he2]; done) | (rw [← he2]; simp only [Array.size_setIfInBounds]))
      have ho2 : ∀ i, i < j * 5 ∨ j * 5 + 5 ≤ i → cur2[i]? = cur1[i]? := fun i hi => by rw [← he2]
      have HE2 := Lib.hid he2
      clear he2
      have hgl2 : g < w2.heap.size := Nat.lt_of_lt_of_le hgl1 hon2.size
      clear hc1_0 hf1_0 hc1_1 hf1_1 hc1_2 hf1_2 hc1_3 hf1_3 hc1_4 hf1_4
      go_wp2_with (fail)
      refine (markRowS_l (xs := x.Rows) (keepS _ hK2_1 (OnlyS.refl [g] w2) (not_one hg2)) hN2 (by omega) (by omega)).mono ?_
      rintro e w3 ⟨rfl, hM2, hs3⟩
      have hb3 : w3.heap[g]? = some (.cells cur2 _ (0, 0)) := (hs3.block g (Nat.lt_of_lt_of_le hgl2 ((OnlyS.refl [g] w2)).size) hg2).trans hb2
      have hon3 : OnlyS ([g] ++ S2) w2 w3 := ((OnlyS.refl [g] w2).mono (fun b hb => by simp at hb; simp [hb])).trans (hs3.mono (fun b hb => by simp [hb]))
      have hK0_2 := keepS _ (keepS _ hM0 (OnlyS.refl [g] w2) (not_one hg0)) hs3 hD02
      replace hM0 := hK0_2
      have hK1_2 := keepS _ (keepS _ hM1 (OnlyS.refl [g] w2) (not_one hg1)) hs3 hD12
      replace hM1 := hK1_2
      have hK3_2 := keepS _ (keepS _ hK3_1 (OnlyS.refl [g] w2) (not_one hg3)) hs3 hD32
      obtain ⟨cur3, he3⟩ : ∃ c, cur2 = c := ⟨_, rfl⟩
      rw [he3] at hb3
      have hr3_0 : cur3[j * 5]? = some (.int .i64 (k + (q : Int))) := by rw [← he3]; exact hr2_0
      have hc3_0 : w3.cell? ⟨g, j * 5, none⟩ = some (.int .i64 (k + (q : Int))) := (cell_of_row w3 g _ cur3 _ (0, 0) hb3).trans hr3_0
      have hf3_0 := frz_blk hb3 (j * 5)
      have hr3_1 : cur3[j * 5 + 1]? = some (.slice A0 x.Symbols.length c0) := by rw [← he3]; exact hr2_1
      have hc3_1 : w3.cell? ⟨g, j * 5 + 1, none⟩ = some (.slice A0 x.Symbols.length c0) := (cell_of_row w3 g _ cur3 _ (0, 0) hb3).trans hr3_1
      have hf3_1 := frz_blk hb3 (j * 5 + 1)
      have hr3_2 : cur3[j * 5 + 2]? = some (.slice A1 x.Rules.length c1) := by rw [← he3]; exact hr2_2
      have hc3_2 : w3.cell? ⟨g, j * 5 + 2, none⟩ = some (.slice A1 x.Rules.length c1) := (cell_of_row w3 g _ cur3 _ (0, 0) hb3).trans hr3_2
      have hf3_2 := frz_blk hb3 (j * 5 + 2)
      have hr3_3 : cur3[j * 5 + 3]? = some (.slice A2 x.Rows.length c2) := by rw [← he3]; exact hr2_3
      have hc3_3 : w3.cell? ⟨g, j * 5 + 3, none⟩ = some (.slice A2 x.Rows.length c2) := (cell_of_row w3 g _ cur3 _ (0, 0) hb3).trans hr3_3
      have hf3_3 := frz_blk hb3 (j * 5 + 3)
      have hr3_4 : cur3[j * 5 + 4]? = some (.slice A3 x.Inlines.length c3) := by rw [← he3]; exact hr2_4
      have hc3_4 : w3.cell? ⟨g, j * 5 + 4, none⟩ = some (.slice A3 x.Inlines.length c3) := (cell_of_row w3 g _ cur3 _ (0, 0) hb3).trans hr3_4
      have hf3_4 := frz_blk hb3 (j * 5 + 4)
      have hz3 : cur3.size = cur2.size := by (first | (rw [← he3]; done) | (rw [← he3]; simp only [Array.size_setIfInBounds]))
      have ho3 : ∀ i, i < j * 5 ∨ j * 5 + 5 ≤ i → cur3[i]? = cur2[i]? := fun i hi => by rw [← he3]
      have HE3 := Lib.hid he3
      clear he3
      have hgl3 : g < w3.heap.size := Nat.lt_of_lt_of_le hgl2 hon3.size
      clear hc2_0 hf2_0 hc2_1 hf2_1 hc2_2 hf2_2 hc2_3 hf2_3 hc2_4 hf2_4
      go_wp2_with (fail)
      refine (markInlineS_l (xs := x.Inlines) (keepS _ hK3_2 (OnlyS.refl [g] w3) (not_one hg3)) hN3 (by omega) (by omega)).mono ?_
      rintro e w4 ⟨rfl, hM3, hs4⟩
      have hb4 : w4.heap[g]? = some (.cells cur3 _ (0, 0)) := (hs4.block g (Nat.lt_of_lt_of_le hgl3 ((OnlyS.refl [g] w3)).size) hg3).trans hb3
      have hon4 : OnlyS ([g] ++ S3) w3 w4 := ((OnlyS.refl [g] w3).mono (fun b hb => by simp at hb; simp [hb])).trans (hs4.mono (fun b hb => by simp [hb]))
      have hK0_3 := keepS _ (keepS _ hM0 (OnlyS.refl [g] w3) (not_one hg0)) hs4 hD03
      replace hM0 := hK0_3
      have hK1_3 := keepS _ (keepS _ hM1 (OnlyS.refl [g] w3) (not_one hg1)) hs4 hD13
      replace hM1 := hK1_3
      have hK2_3 := keepS _ (keepS _ hM2 (OnlyS.refl [g] w3) (not_one hg2)) hs4 hD23
      replace hM2 := hK2_3
      obtain ⟨cur4, he4⟩ : ∃ c, cur3 = c := ⟨_, rfl⟩
      rw [he4] at hb4
      have hr4_0 : cur4[j * 5]? = some (.int .i64 (k + (q : Int))) := by rw [← he4]; exact hr3_0
      have hc4_0 : w4.cell? ⟨g, j * 5, none⟩ = some (.int .i64 (k + (q : Int))) := (cell_of_row w4 g _ cur4 _ (0, 0) hb4).trans hr4_0
      have hf4_0 := frz_blk hb4 (j * 5)
      have hr4_1 : cur4[j * 5 + 1]? = some (.slice A0 x.Symbols.length c0) := by rw [← he4]; exact hr3_1
      have hc4_1 : w4.cell? ⟨g, j * 5 + 1, none⟩ = some (.slice A0 x.Symbols.length c0) := (cell_of_row w4 g _ cur4 _ (0, 0) hb4).trans hr4_1
      have hf4_1 := frz_blk hb4 (j * 5 + 1)
      have hr4_2 : cur4[j * 5 + 2]? = some (.slice A1 x.Rules.length c1) := by rw [← he4]; exact hr3_2
      have hc4_2 : w4.cell? ⟨g, j * 5 + 2, none⟩ = some (.slice A1 x.Rules.length c1) := (cell_of_row w4 g _ cur4 _ (0, 0) hb4).trans hr4_2
      have hf4_2 := frz_blk hb4 (j * 5 + 2)
      have hr4_3 : cur4[j * 5 + 3]? = some (.slice A2 x.Rows.length c2) := by rw [← he4]; exact hr3_3
      have hc4_3 : w4.cell? ⟨g, j * 5 + 3, none⟩ = some (.slice A2 x.Rows.length c2) := (cell_of_row w4 g _ cur4 _ (0, 0) hb4).trans hr4_3
      have hf4_3 := frz_blk hb4 (j * 5 + 3)
      have hr4_4 : cur4[j * 5 + 4]? = some (.slice A3 x.Inlines.length c3) := by rw [← he4]; exact hr3_4
      have hc4_4 : w4.cell? ⟨g, j * 5 + 4, none⟩ = some (.slice A3 x.Inlines.length c3) := (cell_of_row w4 g _ cur4 _ (0, 0) hb4).trans hr4_4
      have hf4_4 := frz_blk hb4 (j * 5 + 4)
      have hz4 : cur4.size = cur3.size := by (first | (rw [← he4]; done) | (rw [← he4]; simp only [Array.size_setIfInBounds]))
      have ho4 : ∀ i, i < j * 5 ∨ j * 5 + 5 ≤ i → cur4[i]? = cur3[i]? := fun i hi => by rw [← he4]
      have HE4 := Lib.hid he4
      clear he4
      have hgl4 : g < w4.heap.size := Nat.lt_of_lt_of_le hgl3 hon4.size
      clear hc3_0 hf3_0 hc3_1 hf3_1 hc3_2 hf3_2 hc3_3 hf3_3 hc3_4 hf3_4
      go_wp2_with (fail)
      go_roundw
      case rel =>
        have e := mkTo_set (mk := mkEDebug) (cnt := cntEDebug) HX.out k
        rw [hq.out] at e
        refine ⟨j + 1, q + cntEDebug x, by omega, ?_, by go_num, hq2, Lib.hid ?_, Lib.hid ?_⟩
        · exact congrArg (Value.int .i64) (by rw [cntEDebug_eq]; push_cast; omega)
        · rw [← e]
          have hOO : ∀ W, OnlyS [g] w4 W → tDebug.O W [.int .i64 (k + (q : Int)), .slice A0 x.Symbols.length c0, .slice A1 x.Rules.length c1, .slice A2 x.Rows.length c2, .slice A3 x.Inlines.length c3] (mkEDebug x (k + (q : Int))) (S0 ++ S1 ++ S2 ++ S3) := fun W hW => by
            have h := (tDebug_mkOd (x := (mkEDebug x (k + (q : Int)))) ⟨by simp only [mkEDebug]; omega, by simp only [mkEDebug]; omega⟩ (keepS _ (by simpa [mkEDebug, mkSymbolS_length, mkRuleS_length, mkRowS_length, mkInlineS_length] using hM0) hW (not_one hg0)) (keepS _ (by simpa [mkEDebug, mkSymbolS_length, mkRuleS_length, mkRowS_length, mkInlineS_length] using hM1) hW (not_one hg1)) (keepS _ (by simpa [mkEDebug, mkSymbolS_length, mkRuleS_length, mkRowS_length, mkInlineS_length] using hM2) hW (not_one hg2)) (keepS _ (by simpa [mkEDebug, mkSymbolS_length, mkRuleS_length, mkRowS_length, mkInlineS_length] using hM3) hW (not_one hg3)))
            simpa [mkEDebug, mkSymbolS_length, mkRuleS_length, mkRowS_length, mkInlineS_length] using h
          refine HS.out _ _ _ _ (hOO _ (OnlyS.refl [g] w4)) hb4 ?_ ?_ ?_ ?_
          · simp only [Array.size_setIfInBounds, hz4, hz3, hz2, hz1]
          · intro i hi
            rw [ho4 i hi]; rw [ho3 i hi]; rw [ho2 i hi]; rw [ho1 i hi]
          · intro t u hu
            exact match t, hu with
            | 0, hu => by
              cases hu
              exact hr4_0
            | 1, hu => by
              cases hu
              exact hr4_1
            | 2, hu => by
              cases hu
              exact hr4_2
            | 3, hu => by
              cases hu
              exact hr4_3
            | 4, hu => by
              cases hu
              exact hr4_4
            | t + 5, hu => by simp at hu
          · exact (((((hon1.mono (fun b hb => by simp at hb ⊢; rcases hb with h | h <;> simp [h])).trans (hon2.mono (fun b hb => by simp at hb ⊢; rcases hb with h | h <;> simp [h]))).trans (hon3.mono (fun b hb => by simp at hb ⊢; rcases hb with h | h <;> simp [h]))).trans (hon4.mono (fun b hb => by simp at hb ⊢; rcases hb with h | h <;> simp [h]))).trans ((OnlyS.refl [g] w4).mono (fun b hb => by simp at hb; simp [hb])))
        · exact hs.out.trans (((((((hon1.mono (fun b hb => by simp at hb ⊢; rcases hb with h | h <;> simp [h])).trans (hon2.mono (fun b hb => by simp at hb ⊢; rcases hb with h | h <;> simp [h]))).trans (hon3.mono (fun b hb => by simp at hb ⊢; rcases hb with h | h <;> simp [h]))).trans (hon4.mono (fun b hb => by simp at hb ⊢; rcases hb with h | h <;> simp [h]))).trans ((OnlyS.refl [g] w4).mono (fun b hb => by simp at hb; simp [hb]))) : OnlyS (g :: (S0 ++ S1 ++ S2 ++ S3)) wr _).mono (fun b hb => by
            rcases List.mem_cons.1 hb with rfl | hb
            · exact hgS
            · exact hSc b (by simpa using hb)))
      case measure => simp [intOf]; omega
    · go_wp2
      have : j = xs.length := by omega
      subst this
      have ho' := ho.out
      rw [mkTo_all] at ho'
      have hq' := hq.out
      rw [List.take_length] at hq'
      go_ret
      exact ⟨ret_int (by rw [hq']), ho', hs.out⟩
end Go.Proofs.YtgodpjnbhmahaaaGreat
namespace Go.Proofs.YtgodpjnbhmahaaaGreat
open Go.RowKit
def RetAgent (x : DAgent) (w : World) (r : Ending) (w' : World) : Prop := ∃ A0 c0 A1 c1 A2 c2 A3 c3, r = .returned (.agg #[.slice A0 x.Space.Images.length c0, .slice A1 x.Space.Bases.length c1, .slice A2 x.Space.Entries.length c2, .slice A3 x.Debugs.length c3]) ∧ Fresh tAgent w w' [.slice A0 x.Space.Images.length c0, .slice A1 x.Space.Bases.length c1, .slice A2 x.Space.Entries.length c2, .slice A3 x.Debugs.length c3] x ∧ Gro w w'
theorem tAgent_mkOd {w : World} {x : DAgent} {A0 : Option Addr} {c0 : Nat} {A1 : Option Addr} {c1 : Nat} {A2 : Option Addr} {c2 : Nat} {A3 : Option Addr} {c3 : Nat} {S0 : List Nat} {S1 : List Nat} (h0 : tSpace.O w [.slice A0 x.Space.Images.length c0, .slice A1 x.Space.Bases.length c1, .slice A2 x.Space.Entries.length c2] x.Space S0) (h1 : (tDebug.sl 97).O w [.slice A3 x.Debugs.length c3] x.Debugs S1) : tAgent.O w [.slice A0 x.Space.Images.length c0, .slice A1 x.Space.Bases.length c1, .slice A2 x.Space.Entries.length c2, .slice A3 x.Debugs.length c3] x (S0 ++ S1) := by
  have h : tAgent.O w [.slice A0 x.Space.Images.length c0, .slice A1 x.Space.Bases.length c1, .slice A2 x.Space.Entries.length c2, .slice A3 x.Debugs.length c3] x (S0 ++ S1) := ⟨[.slice A0 x.Space.Images.length c0, .slice A1 x.Space.Bases.length c1, .slice A2 x.Space.Entries.length c2], [.slice A3 x.Debugs.length c3], S0, S1, rfl, rfl, h0, h1⟩
  exact h
theorem eq_DAgent {x y : DAgent} : x = y ↔ x.Space = y.Space ∧ x.Debugs = y.Debugs := by
  cases x
  cases y
  simp
def szAgent (x : DAgent) : Nat := szSpace x.Space + szL szDebug x.Debugs
set_option maxRecDepth 100000 in
theorem toAgent_l {x : DAgent} {w : World} {A0 : Option Addr} {c0 : Nat} {A1 : Option Addr} {c1 : Nat} {A2 : Option Addr} {c2 : Nat} {A3 : Option Addr} {c3 : Nat} (h0 : (tImage.sl 113).R w w.heap.size [.slice A0 x.Space.Images.length c0] x.Space.Images) (h1 : (intT.sl 3).R w w.heap.size [.slice A1 x.Space.Bases.length c1] x.Space.Bases) (h2 : (intT.sl 3).R w w.heap.size [.slice A2 x.Space.Entries.length c2] x.Space.Entries) (h3 : (tDebug.sl 97).R w w.heap.size [.slice A3 x.Debugs.length c3] x.Debugs) (hn : szAgent x ≤ 1099511627776) : Calls Tryz.prog 32 #[.agg #[.slice A0 x.Space.Images.length c0, .slice A1 x.Space.Bases.length c1, .slice A2 x.Space.Entries.length c2, .slice A3 x.Debugs.length c3]] w (RetAgent x w) := by
  unfold szAgent at hn
  go_enter Tryz.func32, Tryz.ntmps32
  go_wp2_with (first
      | (go_at_call 64; (with_reducible refine (toSpace_l (x := x.Space) (Ty.up _ h0 gG) (Ty.up _ h1 gG) (Ty.up _ h2 gG) (by omega)).mono ?_); rintro e w0 ⟨B0, d0, B1, d1, B2, d2, rfl, hF0, os0, dd0, rfl⟩)
      | (go_at_call 98; (with_reducible refine (toDebugS_l (xs := x.Debugs) (Ty.up _ h3 gG) (by omega)).mono ?_); rintro e w1 ⟨B3, d3, rfl, hF1, os1, dd1, rfl⟩))
  refine bodyPost_ret (v := .agg #[.slice B0 x.Space.Images.length d0, .slice B1 x.Space.Bases.length d1, .slice B2 x.Space.Entries.length d2, .slice B3 x.Debugs.length d3]) (by simp [results, Tryz.results32, go_sem]) rfl ⟨B0, d0, B1, d1, B2, d2, B3, d3, rfl, ?_, gG⟩
  obtain ⟨S0, hO0, hN0, hL0⟩ := hF0
  obtain ⟨S1, hO1, hN1, hL1⟩ := hF1
  have hU0 := Ty.ltO _ hO0
  have hL0' := hL0
  have hU1 := Ty.ltO _ hO1
  have hL1' := hL1
  simp at hL0' hU0 hL1' hU1
  exact ⟨_, tAgent_mkOd (Ty.same _ hO0 hL0 (by repeat (first | with_reducible exact Same.refl _ _ _ | ((with_reducible refine Same.base ?_ ?_) <;> (simp <;> omega)) | ((with_reducible refine Same.more ?_ ?_ _ _); rotate_left; simp <;> omega) | ((with_reducible refine Same.alloc ?_ ?_ _); rotate_left; simp <;> omega) | with_reducible apply Same.drew | with_reducible apply Same.drewN))) (Ty.same _ hO1 hL1 (by repeat (first | with_reducible exact Same.refl _ _ _ | ((with_reducible refine Same.base ?_ ?_) <;> (simp <;> omega)) | ((with_reducible refine Same.more ?_ ?_ _ _); rotate_left; simp <;> omega) | ((with_reducible refine Same.alloc ?_ ?_ _); rotate_left; simp <;> omega) | with_reducible apply Same.drew | with_reducible apply Same.drewN))), List.nodup_append.2 ⟨hN0, hN1, fun a ha b hb => (by have h1 := hU0 a ha; have h2 := hL1' b hb; omega)⟩, fun b hb => (List.mem_append.1 hb).elim (fun hb => (by have := hL0' b hb; omega)) (fun hb => (by have := hL1' b hb; omega))⟩
set_option maxRecDepth 100000 in
theorem szAgent_l {x : DAgent} {w : World} {left : Int} {A0 : Option Addr} {c0 : Nat} {A1 : Option Addr} {c1 : Nat} {A2 : Option Addr} {c2 : Nat} {A3 : Option Addr} {c3 : Nat} (h0 : (tImage.sl 113).R w w.heap.size [.slice A0 x.Space.Images.length c0] x.Space.Images) (h1 : (intT.sl 3).R w w.heap.size [.slice A1 x.Space.Bases.length c1] x.Space.Bases) (h2 : (intT.sl 3).R w w.heap.size [.slice A2 x.Space.Entries.length c2] x.Space.Entries) (h3 : (tDebug.sl 97).R w w.heap.size [.slice A3 x.Debugs.length c3] x.Debugs) (h00 : 0 ≤ left) (h01 : left ≤ 1099511627776) : Calls Tryz.prog 29 #[.agg #[.slice A0 x.Space.Images.length c0, .slice A1 x.Space.Bases.length c1, .slice A2 x.Space.Entries.length c2, .slice A3 x.Debugs.length c3], .int .i64 left] w fun e w' => e = .returned (.int .i64 (szRes left (szAgent x))) ∧ Gro w w' := by
  obtain ⟨n0, hn0⟩ : ∃ n, szSpace x.Space = n := ⟨_, rfl⟩
  obtain ⟨n1, hn1⟩ : ∃ n, szL szDebug x.Debugs = n := ⟨_, rfl⟩
  have HS := Lib.hid (show szAgent x = n0 + n1 from by unfold szAgent; rw [hn0, hn1])
  have HN0 := Lib.hid hn0
  clear hn0
  have HN1 := Lib.hid hn1
  clear hn1
  by_cases c0' : (n0 : Int) ≤ left
  · skip
    by_cases c1' : (n0 : Int) + (n1 : Int) ≤ left
    · skip
      have e0 : szRes (left) n0 = left - (n0 : Nat) := if_pos (by omega)
      have e1 : szRes (left - (n0 : Nat)) n1 = left - (n0 : Nat) - (n1 : Nat) := if_pos (by omega)
      go_enter Tryz.func29, Tryz.ntmps29
      go_wp2_with (first
      | (go_at_call 62; (with_reducible refine (szSpace_l (x := x.Space) (Ty.up _ h0 gG) (Ty.up _ h1 gG) (Ty.up _ h2 gG) (by omega) (by omega)).mono ?_); rintro e w0 ⟨rfl, os0, d0, rfl⟩; rw [HN0.out])
      | (go_at_call 96; (with_reducible refine (szDebugS_l (xs := x.Debugs) (Ty.up _ h3 gG) (by omega) (by omega)).mono ?_); rintro e w1 ⟨rfl, os1, d1, rfl⟩; rw [HN1.out]))
      go_ret
      exact ⟨ret_int (by rw [HS.out]; unfold szRes; rw [if_pos (by omega)] <;> omega), gG⟩
    · have e0 : szRes (left) n0 = left - (n0 : Nat) := if_pos (by omega)
      have e1 : szRes (left - (n0 : Nat)) n1 = -1 := if_neg (by omega)
      go_enter Tryz.func29, Tryz.ntmps29
      go_wp2_with (first
      | (go_at_call 62; (with_reducible refine (szSpace_l (x := x.Space) (Ty.up _ h0 gG) (Ty.up _ h1 gG) (Ty.up _ h2 gG) (by omega) (by omega)).mono ?_); rintro e w0 ⟨rfl, os0, d0, rfl⟩; rw [HN0.out])
      | (go_at_call 96; (with_reducible refine (szDebugS_l (xs := x.Debugs) (Ty.up _ h3 gG) (by omega) (by omega)).mono ?_); rintro e w1 ⟨rfl, os1, d1, rfl⟩; rw [HN1.out]))
      go_ret
      exact ⟨ret_int (by rw [HS.out]; unfold szRes; rw [if_neg (by omega)]), gG⟩
  · have e0 : szRes (left) n0 = -1 := if_neg (by omega)
    go_enter Tryz.func29, Tryz.ntmps29
    go_wp2_with (first
      | (go_at_call 62; (with_reducible refine (szSpace_l (x := x.Space) (Ty.up _ h0 gG) (Ty.up _ h1 gG) (Ty.up _ h2 gG) (by omega) (by omega)).mono ?_); rintro e w0 ⟨rfl, os0, d0, rfl⟩; rw [HN0.out]))
    go_ret
    exact ⟨ret_int (by rw [HS.out]; unfold szRes; rw [if_neg (by omega)]), gG⟩
set_option maxRecDepth 100000 in
theorem eqAgent_l {x y : DAgent} {w : World} {A0 : Option Addr} {c0 : Nat} {A1 : Option Addr} {c1 : Nat} {A2 : Option Addr} {c2 : Nat} {A3 : Option Addr} {c3 : Nat} {B0 : Option Addr} {d0 : Nat} {B1 : Option Addr} {d1 : Nat} {B2 : Option Addr} {d2 : Nat} {B3 : Option Addr} {d3 : Nat} (h0 : (tImage.sl 113).R w w.heap.size [.slice A0 x.Space.Images.length c0] x.Space.Images) (h1 : (intT.sl 3).R w w.heap.size [.slice A1 x.Space.Bases.length c1] x.Space.Bases) (h2 : (intT.sl 3).R w w.heap.size [.slice A2 x.Space.Entries.length c2] x.Space.Entries) (h3 : (tDebug.sl 97).R w w.heap.size [.slice A3 x.Debugs.length c3] x.Debugs) (k0 : (tImage.sl 113).R w w.heap.size [.slice B0 y.Space.Images.length d0] y.Space.Images) (k1 : (intT.sl 3).R w w.heap.size [.slice B1 y.Space.Bases.length d1] y.Space.Bases) (k2 : (intT.sl 3).R w w.heap.size [.slice B2 y.Space.Entries.length d2] y.Space.Entries) (k3 : (tDebug.sl 97).R w w.heap.size [.slice B3 y.Debugs.length d3] y.Debugs) : Calls Tryz.prog 35 #[.agg #[.slice A0 x.Space.Images.length c0, .slice A1 x.Space.Bases.length c1, .slice A2 x.Space.Entries.length c2, .slice A3 x.Debugs.length c3], .agg #[.slice B0 y.Space.Images.length d0, .slice B1 y.Space.Bases.length d1, .slice B2 y.Space.Entries.length d2, .slice B3 y.Debugs.length d3]] w fun e w' => e = .returned (.bool (decide (x = y))) ∧ Gro w w' := by
  go_enter Tryz.func35, Tryz.ntmps35
  go_wp2_with (first
      | (go_at_call 65; (with_reducible refine (eqSpace_l (x := x.Space) (y := y.Space) (Ty.up _ h0 gG) (Ty.up _ h1 gG) (Ty.up _ h2 gG) (Ty.up _ k0 gG) (Ty.up _ k1 gG) (Ty.up _ k2 gG)).mono ?_); rintro e w0 ⟨rfl, os0, d0, rfl⟩)
      | (go_at_call 101; (with_reducible refine (eqDebugS_l (xs := x.Debugs) (ys := y.Debugs) (Ty.up _ h3 gG) (Ty.up _ k3 gG)).mono ?_); rintro e w1 ⟨rfl, os1, d1, rfl⟩))
  all_goals
    go_ret
    refine ⟨ret_bool ?_, gG⟩
    simp_all [eq_DAgent]
def cntAgent (x : DAgent) : Nat := cntSpace x.Space + cntDebugS x.Debugs
def mkAgent (x : DAgent) (k : Int) : DAgent := { x with Space := mkSpace x.Space k, Debugs := mkDebugS x.Debugs (k + (cntSpace x.Space : Nat)) }
set_option maxRecDepth 100000 in
theorem markAgent_l {x : DAgent} {w : World} {k : Int} {S : List Nat} {A0 : Option Addr} {c0 : Nat} {A1 : Option Addr} {c1 : Nat} {A2 : Option Addr} {c2 : Nat} {A3 : Option Addr} {c3 : Nat} (hO : tAgent.O w [.slice A0 x.Space.Images.length c0, .slice A1 x.Space.Bases.length c1, .slice A2 x.Space.Entries.length c2, .slice A3 x.Debugs.length c3] x S) (hS : S.Nodup) (h00 : 0 < k) (h01 : k + (cntAgent x : Nat) ≤ 1099511627776) : Calls Tryz.prog 37 #[.agg #[.slice A0 x.Space.Images.length c0, .slice A1 x.Space.Bases.length c1, .slice A2 x.Space.Entries.length c2, .slice A3 x.Debugs.length c3], .int .i64 k] w fun e w' => e = .returned (.int .i64 (k + (cntAgent x : Nat))) ∧ tAgent.O w' [.slice A0 x.Space.Images.length c0, .slice A1 x.Space.Bases.length c1, .slice A2 x.Space.Entries.length c2, .slice A3 x.Debugs.length c3] (mkAgent x k) S ∧ OnlyS S w w' := by
  obtain ⟨A0', c0', S0, A1', c1', S1, A2', c2', S2, A3', c3', S3, hcl, rfl, h0, h1, h2, h3⟩ := tAgent_O hO
  simp only [List.cons.injEq, Value.slice.injEq, true_and, and_true] at hcl
  obtain ⟨⟨rfl, rfl⟩, ⟨rfl, rfl⟩, ⟨rfl, rfl⟩, ⟨rfl, rfl⟩⟩ := hcl
  have hlt := Ty.ltO _ hO
  unfold cntAgent at h01 ⊢
  obtain ⟨hN0, hN1, hD01, hD10⟩ := nd2 hS
  have hO0 := (tSpace_mkO A0 c0 _ A1 c1 _ A2 c2 _ h0 h1 h2)
  have hL0 := Ty.ltO _ hO0
  have hO1 := h3
  have hL1 := Ty.ltO _ hO1
  go_enter Tryz.func37, Tryz.ntmps37
  go_wp2_with (fail)
  refine (markSpace_l (x := x.Space) (Ty.groO _ hO0 gG) hN0 (by omega) (by omega)).mono ?_
  rintro e w1 ⟨rfl, hM0, hs1⟩
  have hO1_0 := keepOnly _ hO1 hs1 gG hD10
  have hc1_0 : w1.cell? ⟨w.heap.size, 0, none⟩ = some (.slice A0 x.Space.Images.length c0) := (hs1.cell (by simp) (fun hm => by have := hL0 _ hm; omega) 0).trans (by simp [go_sem])
  have hc1_1 : w1.cell? ⟨w.heap.size, 1, none⟩ = some (.slice A1 x.Space.Bases.length c1) := (hs1.cell (by simp) (fun hm => by have := hL0 _ hm; omega) 1).trans (by simp [go_sem])
  have hc1_2 : w1.cell? ⟨w.heap.size, 2, none⟩ = some (.slice A2 x.Space.Entries.length c2) := (hs1.cell (by simp) (fun hm => by have := hL0 _ hm; omega) 2).trans (by simp [go_sem])
  have hc1_3 : w1.cell? ⟨w.heap.size, 3, none⟩ = some (.slice A3 x.Debugs.length c3) := (hs1.cell (by simp) (fun hm => by have := hL0 _ hm; omega) 3).trans (by simp [go_sem])
  have hcb1 : w.heap.size < w1.heap.size := Nat.lt_of_lt_of_le (by simp) hs1.size
  go_wp2_with (fail)
  refine (markDebugS_l (xs := x.Debugs) (Ty.groO _ hO1_0 gG) hN1 (by omega) (by omega)).mono ?_
  rintro e w2 ⟨rfl, hM1, hs2⟩
  have hM0_1 := keepOnly _ hM0 hs2 gG hD01
  replace hM0 := hM0_1
  go_wp2
  go_ret
  refine ⟨ret_int (by push_cast; omega), ?_, (((Gro.only gG _).trans (hs1.mono (fun b hb => by first | (simp [hb]; done) | (simp at hb ⊢; rcases hb with h | h | h <;> simp [h])))).trans (hs2.mono (fun b hb => by simp [hb])))⟩
  have h := tAgent_mkOd (w := w2) (x := mkAgent x k) (by simpa [mkAgent, mkSpace, mkImageS_length, mkInts_length, mkDebugS_length] using hM0) (by simpa [mkAgent, mkSpace, mkImageS_length, mkInts_length, mkDebugS_length] using hM1)
  simpa [mkAgent, mkSpace, mkImageS_length, mkInts_length, mkDebugS_length] using h
end Go.Proofs.YtgodpjnbhmahaaaGreat
namespace Go.Proofs.YtgodpjnbhmahaaaGreat
open Go.RowKit
theorem bits_or_comm (k : IntKind) (x y : Int) : bits .or k x y = bits .or k y x := by simp only [bits, BitVec.or_comm]
theorem wraps_i64 (n : Int) (h0 : 0 ≤ n) (h1 : n < 2 ^ 62) : IntKind.i64.wrap n = n := IntWalk.i64_in n ⟨by omega, by omega⟩
end Go.Proofs.YtgodpjnbhmahaaaGreat
namespace Go.Proofs.YtgodpjnbhmahaaaGreat
open Go.RowKit
/-- how many bytes an argument has, and whether it has a sign -/
def opW (c : Int) : Nat × Bool :=
  if c = 0 then (4, true)
  else if c = 1 ∨ c = 2 ∨ c = 3 ∨ c = 4 ∨ c = 10 ∨ c = 11 then (2, true)
  else if c = 16 then (2, false)
  else if c = 12 ∨ c = 13 ∨ c = 14 ∨ c = 15 then (1, false)
  else (0, false)
theorem opW_cases (c : Int) : opW c = (4, true) ∨ opW c = (2, true) ∨ opW c = (2, false) ∨ opW c = (1, false) ∨ opW c = (0, false) := by
  unfold opW
  split
  · simp
  · split
    · simp
    · split
      · simp
      · split <;> simp
theorem opW_le (c : Int) : (opW c).1 ≤ 4 := by
  rcases opW_cases c with h | h | h | h | h <;> rw [h] <;> decide
def opSize (c : Int) : Int := if btw c 0 17 = true then ((opW c).1 : Int) + 1 else 0
def byteN (s : ByteArray) (a : Nat) : Nat := (s.data.toList[a]?.map UInt8.toNat).getD 0
theorem byteN_get {s : ByteArray} {a : Nat} (h : a < s.size) : byteN s a = s[a].toNat := by
  unfold byteN
  rw [bytes_get s a h]
  rfl
theorem byteN_lt (s : ByteArray) (a : Nat) : byteN s a < 256 := by
  unfold byteN
  cases s.data.toList[a]? with
  | none => simp
  | some b => simpa using b.toNat_lt
/-- the number of k bytes from a on, the least first -/
def argU (s : ByteArray) (a : Nat) : Nat → Nat
  | 0 => 0
  | k + 1 => argU s a k + byteN s (a + k) * 256 ^ k
theorem argU_lt (s : ByteArray) (a : Nat) : ∀ k, argU s a k < 256 ^ k
  | 0 => by simp [argU]
  | k + 1 => by
    have h1 := argU_lt s a k
    have h2 := byteN_lt s (a + k)
    have h3 : byteN s (a + k) * 256 ^ k ≤ 255 * 256 ^ k := Nat.mul_le_mul_right _ (by omega)
    have h4 : (256 : Nat) ^ (k + 1) = 256 * 256 ^ k := by rw [Nat.pow_succ, Nat.mul_comm]
    simp only [argU]
    omega
def argS (w : Nat) (sg : Bool) (u : Nat) : Int := if sg = true ∧ 2 ^ (8 * w - 1) ≤ u then (u : Int) - 2 ^ (8 * w) else u
structure OpR where
  code : Int
  arg : Int
  n : Nat
  ok : Bool
def decOp (s : ByteArray) (a : Int) : OpR :=
  if 0 ≤ a ∧ a < s.size ∧ byteN s a.toNat ≤ 17 ∧ a.toNat + 1 + (opW (byteN s a.toNat : Nat)).1 ≤ s.size then
    ⟨(byteN s a.toNat : Nat), argS (opW (byteN s a.toNat : Nat)).1 (opW (byteN s a.toNat : Nat)).2 (argU s (a.toNat + 1) (opW (byteN s a.toNat : Nat)).1), (opW (byteN s a.toNat : Nat)).1 + 1, true⟩
  else ⟨0, 0, 0, false⟩
theorem decOp_no {s : ByteArray} {a : Int} (h : ¬ (0 ≤ a ∧ a < s.size ∧ byteN s a.toNat ≤ 17 ∧ a.toNat + 1 + (opW (byteN s a.toNat : Nat)).1 ≤ s.size)) : decOp s a = ⟨0, 0, 0, false⟩ := if_neg h
theorem decOp_yes {s : ByteArray} {a : Nat} {c w : Nat} {sg : Bool} (h1 : a < s.size) (h2 : byteN s a = c) (h3 : c ≤ 17) (h4 : opW (c : Int) = (w, sg)) (h5 : a + 1 + w ≤ s.size) : decOp s (a : Int) = ⟨c, argS w sg (argU s (a + 1) w), w + 1, true⟩ := by
  unfold decOp
  rw [Int.toNat_natCast, h2, h4, if_pos ⟨by omega, by omega, h3, h5⟩]
theorem decOp_ok {s : ByteArray} {a : Int} {r : OpR} (h : decOp s a = r) (hk : r.ok = true) : 0 ≤ a ∧ 1 ≤ r.n ∧ r.n ≤ 5 ∧ a + r.n ≤ s.size ∧ 0 ≤ r.code ∧ r.code ≤ 17 := by
  subst h
  unfold decOp at hk ⊢
  split
  · rename_i h
    have := opW_le (byteN s a.toNat : Nat)
    simp only
    omega
  · rename_i h
    rw [if_neg h] at hk
    cases hk
theorem decOp_zero {s : ByteArray} {a : Int} {r : OpR} (h : decOp s a = r) (hk : r.ok = false) : r = ⟨0, 0, 0, false⟩ := by
  subst h
  unfold decOp at hk ⊢
  split
  · rename_i h
    rw [if_pos h] at hk
    cases hk
  · rfl
theorem argS_bd (w : Nat) (sg : Bool) (u : Nat) (hw : w ≤ 4) (hu : u < 256 ^ w) : -2147483648 ≤ argS w sg u ∧ argS w sg u ≤ 4294967295 := by
  unfold argS
  have h4 : w = 0 ∨ w = 1 ∨ w = 2 ∨ w = 3 ∨ w = 4 := by omega
  split
  · rename_i h
    obtain ⟨_, h⟩ := h
    rcases h4 with rfl | rfl | rfl | rfl | rfl <;> simp at h hu ⊢ <;> omega
  · rcases h4 with rfl | rfl | rfl | rfl | rfl <;> simp at hu ⊢ <;> omega
theorem decOp_arg {s : ByteArray} {a : Int} {r : OpR} (h : decOp s a = r) : -2147483648 ≤ r.arg ∧ r.arg ≤ 4294967295 := by
  subst h
  unfold decOp
  split
  · exact argS_bd _ _ _ (opW_le _) (argU_lt _ _ _)
  · simp
/-- whether a text of instructions can be read from a place on -/
def disF (s : ByteArray) : Nat → Nat → Bool
  | 0, a => decide (s.size ≤ a)
  | f + 1, a => if a < s.size then (if (decOp s (a : Int)).ok = true then disF s f (a + (decOp s (a : Int)).n) else false) else true
def disOk (s : ByteArray) (a : Nat) : Bool := disF s (s.size - a) a
theorem disF_more (s : ByteArray) : ∀ (f a : Nat), s.size - a ≤ f → disF s f a = disF s (s.size - a) a := by
  intro f
  induction f with
  | zero => intro a h; rw [show s.size - a = 0 from by omega]
  | succ f ih =>
    intro a h
    by_cases ha : a < s.size
    · obtain ⟨k, hk⟩ : ∃ k, s.size - a = k + 1 := ⟨s.size - a - 1, by omega⟩
      rw [hk]
      simp only [disF, if_pos ha]
      split
      · rename_i hok
        have := decOp_ok (s := s) (a := (a : Int)) rfl hok
        rw [ih _ (by omega)]
        have key : ∀ g, s.size - (a + (decOp s (a : Int)).n) ≤ g → g ≤ f → disF s g (a + (decOp s (a : Int)).n) = disF s (s.size - (a + (decOp s (a : Int)).n)) (a + (decOp s (a : Int)).n) := by
          intro g hg hgf
          by_cases e : g = f
          · subst e; exact ih _ hg
          · obtain ⟨d, hd⟩ : ∃ d, g = (s.size - (a + (decOp s (a : Int)).n)) + d := ⟨_, (Nat.add_sub_cancel' hg).symm⟩
            clear hgf e
            subst hd
            generalize (a + (decOp s (a : Int)).n) = b
            clear ih h ha hk hok this hg
            suffices h : ∀ (m d b : Nat), s.size - b ≤ m → disF s (m + d) b = disF s m b by exact h _ d b (Nat.le_refl _)
            intro m
            induction m with
            | zero =>
              intro d b hb
              cases d with
              | zero => rfl
              | succ d => simp only [Nat.zero_add, disF]; rw [if_neg (by omega)]; simp; omega
            | succ m im =>
              intro d b hb
              rw [Nat.add_right_comm]
              simp only [disF]
              split
              · split
                · rename_i h1 h2
                  have := decOp_ok (s := s) (a := (b : Int)) rfl h2
                  exact im _ _ (by omega)
                · rfl
              · rfl
        exact (key k (by omega) (by omega)).symm
      · rfl
    · rw [show s.size - a = 0 from by omega]
      simp only [disF, if_neg ha]
      simp; omega
theorem disOk_end {s : ByteArray} {a : Nat} (h : s.size ≤ a) : disOk s a = true := by
  unfold disOk
  rw [show s.size - a = 0 from by omega]
  simp [disF, h]
theorem disOk_bad {s : ByteArray} {a : Nat} (h : a < s.size) (hk : (decOp s (a : Int)).ok = false) : disOk s a = false := by
  unfold disOk
  obtain ⟨k, hk'⟩ : ∃ k, s.size - a = k + 1 := ⟨s.size - a - 1, by omega⟩
  rw [hk']
  simp [disF, h, hk]
theorem disOk_step {s : ByteArray} {a : Nat} (h : a < s.size) (hk : (decOp s (a : Int)).ok = true) : disOk s a = disOk s (a + (decOp s (a : Int)).n) := by
  have := decOp_ok (s := s) (a := (a : Int)) rfl hk
  unfold disOk
  obtain ⟨k, hk'⟩ : ∃ k, s.size - a = k + 1 := ⟨s.size - a - 1, by omega⟩
  rw [hk']
  simp only [disF, if_pos h, if_pos hk]
  exact disF_more _ _ _ (by omega)
end Go.Proofs.YtgodpjnbhmahaaaGreat
namespace Go.Proofs.YtgodpjnbhmahaaaGreat
open Go.RowKit
set_option maxRecDepth 100000 in
theorem argument_i (c : Int) (w : World) : Calls Tryz.prog 321 #[.int .i64 c] w fun e w' => e = .returned (.tuple #[.int .i64 ((opW c).1 : Int), .bool (opW c).2]) ∧ w = w' := by
  go_enter Tryz.func321, Tryz.ntmps321
  go_wp2
  all_goals
    go_ret2
    refine ⟨?_, rfl⟩
    simp_all [opW]
set_option maxRecDepth 100000 in
theorem width_s (c : Int) (w : World) : Calls Tryz.prog 307 #[.int .i64 c] w fun e w' => e = .returned (.tuple #[.int .i64 ((opW c).1 : Int), .bool (opW c).2]) ∧ w = w' := by
  go_enter Tryz.func307, Tryz.ntmps307
  go_wp2
  all_goals
    go_ret2
    refine ⟨?_, rfl⟩
    simp_all [opW]
theorem opSize_def (c : Int) : opSize c = if btw c 0 17 = true then ((opW c).1 : Int) + 1 else 0 := rfl
set_option maxRecDepth 100000 in
theorem opSize_i (c : Int) (w : World) : Calls Tryz.prog 215 #[.int .i64 c] w fun e w' => e = .returned (.int .i64 (opSize c)) ∧ w = w' := by
  have hle := opW_le c
  obtain ⟨n, sg, hw⟩ : ∃ n sg, opW c = (n, sg) := ⟨_, _, rfl⟩
  rw [hw] at hle
  have HW := Lib.hid hw
  cases hb : btw c 0 17
  · have HS := Lib.hid (show opSize c = 0 from by simp [opSize, hb])
    have HB := Lib.hid hb
    clear hb hw
    go_enter Tryz.func215, Tryz.ntmps215
    go_wp2_with (go_at_call 73; (with_reducible refine (in_i _ _ _ _).mono ?_); rw [HB.out]; rintro e w1 ⟨rfl, rfl⟩)
    go_ret
    exact ⟨ret_int HS.out.symm, rfl⟩
  · have HS := Lib.hid (show opSize c = (n : Int) + 1 from by simp [opSize, hb, hw])
    have HB := Lib.hid hb
    clear hb hw
    go_enter Tryz.func215, Tryz.ntmps215
    go_wp2_with (first
      | (go_at_call 73; (with_reducible refine (in_i _ _ _ _).mono ?_); rw [HB.out]; rintro e w1 ⟨rfl, rfl⟩)
      | (go_at_call 321; (with_reducible refine (argument_i _ _).mono ?_); rw [HW.out]; rintro e w1 ⟨rfl, rfl⟩))
    go_ret
    exact ⟨ret_int HS.out.symm, rfl⟩
set_option maxRecDepth 100000 in
theorem opSize_s (c : Int) (w : World) : Calls Tryz.prog 199 #[.int .i64 c] w fun e w' => e = .returned (.int .i64 (opSize c)) ∧ w = w' := by
  have hle := opW_le c
  obtain ⟨n, sg, hw⟩ : ∃ n sg, opW c = (n, sg) := ⟨_, _, rfl⟩
  rw [hw] at hle
  have HW := Lib.hid hw
  cases hb : btw c 0 17
  · have HS := Lib.hid (show opSize c = 0 from by simp [opSize, hb])
    have HB := Lib.hid hb
    clear hb hw
    go_enter Tryz.func199, Tryz.ntmps199
    go_wp2_with (go_at_call 78; (with_reducible refine (in_s _ _ _ _).mono ?_); rw [HB.out]; rintro e w1 ⟨rfl, rfl⟩)
    go_ret
    exact ⟨ret_int HS.out.symm, rfl⟩
  · have HS := Lib.hid (show opSize c = 1 + (n : Int) from by simp [opSize, hb, hw, Int.add_comm])
    have HB := Lib.hid hb
    clear hb hw
    go_enter Tryz.func199, Tryz.ntmps199
    go_wp2_with (first
      | (go_at_call 78; (with_reducible refine (in_s _ _ _ _).mono ?_); rw [HB.out]; rintro e w1 ⟨rfl, rfl⟩)
      | (go_at_call 307; (with_reducible refine (width_s _ _).mono ?_); rw [HW.out]; rintro e w1 ⟨rfl, rfl⟩))
    go_ret
    exact ⟨ret_int HS.out.symm, rfl⟩
end Go.Proofs.YtgodpjnbhmahaaaGreat
namespace Go.Proofs.YtgodpjnbhmahaaaGreat
open Go.RowKit
/-- owned, by the blocks of S, none twice -/
def Has {α : Type} (T : Ty α) (W : World) (cs : List Value) (x : α) (S : List Nat) : Prop := T.O W cs x S ∧ S.Nodup
theorem Has.lt {α : Type} {T : Ty α} {W : World} {cs : List Value} {x : α} {S : List Nat} (h : Has T W cs x S) : ∀ b ∈ S, b < W.heap.size := T.ltO h.1
theorem Has.read {α : Type} {T : Ty α} {W : World} {cs : List Value} {x : α} {S : List Nat} (h : Has T W cs x S) : T.R W W.heap.size cs x := T.read h.1
theorem Has.keep {α : Type} {T : Ty α} {W W' : World} {cs : List Value} {x : α} {S L : List Nat} (h : Has T W cs x S) (ho : OnlyS L W W') (hd : ∀ b ∈ S, b ∉ L) : Has T W' cs x S :=
  ⟨T.keepO h.1 (fun k hk => ho.block k (h.lt k hk) (hd k hk)), h.2⟩
theorem Has.gro {α : Type} {T : Ty α} {W W' : World} {cs : List Value} {x : α} {S : List Nat} (h : Has T W cs x S) (hg : Gro W W') : Has T W' cs x S := ⟨T.groO h.1 hg, h.2⟩
theorem Has.fresh {α : Type} {T : Ty α} {w W : World} {cs : List Value} {x : α} {S : List Nat} (h : Has T W cs x S) (hl : ∀ b ∈ S, w.heap.size ≤ b) : Fresh T w W cs x := ⟨S, h.1, h.2, hl⟩
theorem Fresh.has {α : Type} {T : Ty α} {w W : World} {cs : List Value} {x : α} (h : Fresh T w W cs x) : ∃ S, Has T W cs x S ∧ ∀ b ∈ S, w.heap.size ≤ b := by
  obtain ⟨S, h1, h2, h3⟩ := h
  exact ⟨S, ⟨h1, h2⟩, h3⟩
theorem Has.same {α : Type} {T : Ty α} {W W' : World} {cs : List Value} {x : α} {S : List Nat} {n : Nat} (h : Has T W cs x S) (hl : ∀ b ∈ S, n ≤ b) (hs : Same n W.heap.size W W') : Has T W' cs x S :=
  ⟨T.keepO h.1 (fun k hk => hs k (hl k hk) (h.lt k hk)), h.2⟩
theorem Has.prod {α β : Type} {T : Ty α} {U : Ty β} {W : World} {c1 c2 : List Value} {x : α × β} {S : List Nat} (hl : c1.length = T.size) (h : Has (T.prod U) W (c1 ++ c2) x S) : ∃ S1 S2, Has T W c1 x.1 S1 ∧ Has U W c2 x.2 S2 ∧ (∀ b ∈ S1, b ∈ S) ∧ (∀ b ∈ S2, b ∈ S) ∧ ∀ b ∈ S1, b ∉ S2 := by
  obtain ⟨⟨d1, d2, S1, S2, he, rfl, h1, h2⟩, hN⟩ := h
  have hl2 := T.lenO h1
  have h3 : c1 = d1 ∧ c2 = d2 := List.append_inj he (by omega)
  obtain ⟨rfl, rfl⟩ := h3
  obtain ⟨n1, n2, n3, _⟩ := nd2 hN
  exact ⟨S1, S2, ⟨h1, n1⟩, ⟨h2, n2⟩, fun b hb => List.mem_append_left _ hb, fun b hb => List.mem_append_right _ hb, n3⟩
theorem Has.nil {α : Type} (T : Ty α) (e : TypeId) (W : World) : Has (T.sl e) W [.slice none 0 0] [] [] := by
  obtain ⟨S, h1, h2, h3⟩ := fresh_nil (T := T) (e := e) W W
  refine ⟨?_, by simp⟩
  obtain ⟨A', c', ecs, S', h4, h5, h6, h7⟩ := h1
  injection h4 with h4 _
  injection h4 with hA hn hc
  subst hA hc
  obtain ⟨h8, h9⟩ := h6
  exact ⟨none, 0, ecs, [], rfl, h5, ⟨h8, rfl⟩, rfl⟩
theorem Has.emp {α : Type} (T : Ty α) {e : TypeId} {W : World} {g : Nat} (hg : W.heap[g]? = some (.cells #[] e (0, 0))) : Has (T.sl e) W [.slice (some ⟨g, 0, none⟩) 0 0] [] [g] :=
  ⟨own_made (T := T) (xs := []) hg ⟨rfl, rfl⟩ (by simp), by simp⟩
section
variable {α : Type} {T : Ty α} {e : TypeId} {P : Program} {t ty : TypeId} {bytes : Nat}
theorem run_append_set (hE : Elem P t e T bytes) {W : World} {S : List Nat} {A : Option Addr} {n c : Nat} {xs : List α} (h : Has (T.sl e) W [.slice A n c] xs S)
    {ad : Addr} {m c' : Nat} {ys : List α} {news : List Value} {Sy : List Nat} (hr : Rows T W news ys Sy) (hm : m = ys.length) (hcell : ∀ j u, news[j]? = some u → W.cell? (ad.add j) = some u)
    (hSy : Sy.Nodup) (hd : ∀ b ∈ S, b ∉ Sy) {L : Nat} (hL : L = n + m) (hb : L * bytes ≤ 140737488355328) (h63 : L ≤ 9223372036854775807) :
    ∃ A' c'' W' S', (Builtin.append_ #[t, t] ty #[.slice A n c, .slice (some ad) m c']).run P W = .ok (.slice A' L c'') W' ∧ OnlyS S W W' ∧ Has (T.sl e) W' [.slice A' L c''] (xs ++ ys) S' ∧ ∀ b ∈ S', b ∈ S ∨ b ∈ Sy ∨ W.heap.size ≤ b := by
  subst hL
  obtain ⟨hO, hN⟩ := h
  obtain ⟨A1, c1, ecs, S', hv, how, hrow, rfl⟩ := hO
  injection hv with hv _
  injection hv with hA hn hc
  subst hA hc
  have hn' : n = xs.length := hn
  obtain ⟨i, z, hi, hz, hsize, hby, hzs⟩ := hE.info
  have hlen : news.length = m * T.size := by rw [hr.len, hm]
  obtain ⟨v', W', hrun, hown, hgrown, _, hat⟩ := run_append_own_at (P := P) W 0 t ty e i z T.size bytes hE.ht hi hz hsize hby hzs hE.pos (.slice A xs.length c) xs.length ecs how ad m c' news hlen hcell hr.one
    (by rw [← hn']; simpa [maxLen] using h63) (by rw [← hn']; exact hb) (Nat.zero_le _)
  subst hn'
  have hkeep : ∀ k, k < W.heap.size → (∀ b ∈ blockOf A, k ≠ b) → W'.heap[k]? = W.heap[k]? := fun k hk hne => hgrown.block k hk (by
    cases A with
    | none => simp [Value.ownBlock]
    | some a => simpa [Value.ownBlock, blockOf] using hne)
  rw [List.nodup_append] at hN
  obtain ⟨hN1, hN2, hN3⟩ := hN
  have hrow' : Rows T W' ecs xs S' := hrow.keep (fun k hk => hkeep k (hrow.lt k hk) (fun b hb => (hN3 b hb k hk).symm))
  have hr' : Rows T W' news ys Sy := hr.keep (fun k hk => hkeep k (hr.lt k hk) (fun b hb heq => hd b (List.mem_append_left _ hb) (heq ▸ hk)))
  have hshape : ∃ A' c'', v' = .slice A' (xs.length + m) c'' ∧ ∀ b ∈ blockOf A', b ∈ blockOf A ∨ b = W.heap.size := by
    rcases hown.2 with ⟨rfl, h0⟩ | ⟨g, cap, cur, rfl, _⟩
    · exact ⟨none, 0, by rw [h0], by simp [blockOf]⟩
    · refine ⟨_, cap, rfl, fun b hb => ?_⟩
      simp [blockOf] at hb
      subst hb
      rcases hat with h | h
      · left
        cases A with
        | none => simp [Value.ownBlock] at h
        | some a => simp [Value.ownBlock] at h; simp [blockOf, h]
      · right
        simpa [Value.ownBlock] using h
  obtain ⟨A', c'', rfl, hA'⟩ := hshape
  refine ⟨A', c'', W', blockOf A' ++ (S' ++ Sy), hrun, ⟨hgrown.os, hgrown.tape, hgrown.output, hgrown.size, fun k hk hn => hkeep k hk (fun b hb heq => hn (List.mem_append_left _ (heq ▸ hb)))⟩,
    ⟨⟨A', c'', ecs ++ news, S' ++ Sy, by rw [List.length_append, hm], by rw [List.length_append, ← hm]; exact hown, hrow'.app hr', rfl⟩, ?_⟩, ?_⟩
  · rw [List.nodup_append]
    refine ⟨by cases A' <;> simp [blockOf], List.nodup_append.2 ⟨hN2, hSy, fun a ha b hb heq => hd a (List.mem_append_right _ ha) (heq ▸ hb)⟩, fun a ha b hb heq => ?_⟩
    subst heq
    rcases hA' a ha with h | h
    · rcases List.mem_append.1 hb with hb | hb
      · exact hN3 a h a hb rfl
      · exact hd a (List.mem_append_left _ h) hb
    · subst h
      rcases List.mem_append.1 hb with hb | hb
      · exact absurd (hrow.lt _ hb) (Nat.lt_irrefl _)
      · exact absurd (hr.lt _ hb) (Nat.lt_irrefl _)
  · intro b hb
    rcases List.mem_append.1 hb with hb | hb
    · rcases hA' b hb with h | h
      · exact .inl (List.mem_append_left _ h)
      · exact .inr (.inr (by omega))
    · rcases List.mem_append.1 hb with hb | hb
      · exact .inl (List.mem_append_right _ hb)
      · exact .inr (.inl hb)
theorem run_append_nil_has (hE : Elem P t e T bytes) {W : World} {S : List Nat} {A : Option Addr} {n c : Nat} {xs : List α} (h : Has (T.sl e) W [.slice A n c] xs S) (c' : Nat) :
    (Builtin.append_ #[t, t] ty #[.slice A n c, .slice none 0 c']).run P W = .ok (.slice A n c) W :=
  run_append_fresh_nil (W0 := { W with heap := #[] }) hE ⟨S, h.1, h.2, fun b _ => Nat.zero_le _⟩ c'
end
section
variable {α : Type} {T : Ty α} {e : TypeId} {P : Program} {t : TypeId} {bytes : Nat} {ops : Array Oper} {rest : List Oper} {o : Oper} {a : Act} {Q : Exit → Act → World → Prop} {K : Act → World → Prop}
theorem wpList_append_has (hgd : o.guard = none) (s x : Operand) (hE : Elem P t e T bytes) {W : World} {g cc : Nat} {S Sy : List Nat} {A : Option Addr} {n c : Nat} {xs : List α} (h : Has (T.sl e) W [.slice A n c] xs S)
    {ec : List Value} {y : α} (hy : Has T W ec y Sy) (hd : ∀ b ∈ S, b ∉ Sy)
    (ho : o.op = .call { callee := .builtin .append, args := #[s, x], argTypes := #[t, t] }) (hs : a.eval s = .slice A n c) (hx : a.eval x = .slice (some ⟨g, 0, none⟩) 1 cc)
    (hcell : ∀ (j : Nat) (u : Value), ec[j]? = some u → W.cell? ⟨g, j, none⟩ = some u)
    {L : Nat} (hL : L = n + 1) (hb : L * bytes ≤ 140737488355328) (h63 : L ≤ 9223372036854775807)
    (hK : ∀ A' c'' W' S', OnlyS S W W' → Has (T.sl e) W' [.slice A' L c''] (xs ++ [y]) S' → (∀ b ∈ S', b ∈ S ∨ b ∈ Sy ∨ W.heap.size ≤ b) → wpList P ops Q rest (a.put o.dst (.slice A' L c'')) W') : wpList P ops Q (o :: rest) a W :=
  wpList_plain hgd fun K hKK => by
    obtain ⟨A', c'', W', S', hrun, hon, hF, hS'⟩ := run_append_set (P := P) (ty := o.type) hE h (ad := ⟨g, 0, none⟩) (m := 1) (c' := cc) (ys := [y]) (news := ec) (Sy := Sy) ⟨ec, [], Sy, [], by simp, by simp, hy.1, rfl, rfl⟩ rfl (fun j u hu => by rw [Addr.add_lit, Nat.zero_add]; exact hcell j u hu) hy.2 hd hL hb h63
    exact wp_of_run_append s x ho hs hx hrun (hKK _ _ (hK A' c'' W' S' hon hF hS'))
theorem wpList_append_hasf (hgd : o.guard = none) (s x : Operand) (hE : Elem P t e T bytes) (hf : Flat T) {W W1 : World} {B g cc : Nat} {S : List Nat} {A : Option Addr} {n c : Nat} {xs : List α} (h : Has (T.sl e) W [.slice A n c] xs S)
    {ec : List Value} {y : α} (hy : T.R W1 B ec y)
    (ho : o.op = .call { callee := .builtin .append, args := #[s, x], argTypes := #[t, t] }) (hs : a.eval s = .slice A n c) (hx : a.eval x = .slice (some ⟨g, 0, none⟩) 1 cc)
    (hcell : ∀ (j : Nat) (u : Value), ec[j]? = some u → W.cell? ⟨g, j, none⟩ = some u)
    {L : Nat} (hL : L = n + 1) (hb : L * bytes ≤ 140737488355328) (h63 : L ≤ 9223372036854775807)
    (hK : ∀ A' c'' W' S', OnlyS S W W' → Has (T.sl e) W' [.slice A' L c''] (xs ++ [y]) S' → (∀ b ∈ S', b ∈ S ∨ W.heap.size ≤ b) → wpList P ops Q rest (a.put o.dst (.slice A' L c'')) W') : wpList P ops Q (o :: rest) a W :=
  wpList_append_has hgd s x hE h (Sy := []) ⟨hf hy W, by simp⟩ (by simp) ho hs hx hcell hL hb h63 (fun A' c'' W' S' h1 h2 h3 => hK A' c'' W' S' h1 h2 (fun b hb => by have := h3 b hb; simpa using this))
/-- 'append(own, list...)', flat -/
theorem run_append_hasl (hE : Elem P t e T bytes) (hf : Flat T) {ty : TypeId} {W : World} {S : List Nat} {A : Option Addr} {n c : Nat} {xs : List α} (h : Has (T.sl e) W [.slice A n c] xs S)
    {B : Nat} {e' : TypeId} {A2 : Option Addr} {m c2 : Nat} {ys : List α} (hy : (T.sl e').R W B [.slice A2 m c2] ys)
    {L : Nat} (hL : L = n + m) (hb : L * bytes ≤ 140737488355328) (h63 : L ≤ 9223372036854775807) :
    ∃ A' c'' W' S', (Builtin.append_ #[t, t] ty #[.slice A n c, .slice A2 m c2]).run P W = .ok (.slice A' L c'') W' ∧ OnlyS S W W' ∧ Has (T.sl e) W' [.slice A' L c''] (xs ++ ys) S' ∧ ∀ b ∈ S', b ∈ S ∨ W.heap.size ≤ b := by
  obtain ⟨A3, c3, hv, h1, h2, h3, h4⟩ := hy
  injection hv with hv _
  injection hv with hA hn hc
  subst hA hn hc
  rcases Nat.eq_zero_or_pos ys.length with h0 | h0
  · have hys : ys = [] := List.eq_nil_of_length_eq_zero h0
    subst hys
    subst hL
    cases A2 with
    | none => exact ⟨A, c, W, S, run_append_nil_has hE h _, OnlyS.refl _ _, by simpa using h, fun b hb => .inl hb⟩
    | some ad =>
      obtain ⟨A', c'', W', S', k1, k2, k3, k4⟩ := run_append_set (P := P) (ty := ty) hE h (ad := ad) (m := 0) (c' := c2) (news := []) (ys := []) (Sy := []) ⟨rfl, rfl⟩ rfl (fun j u hu => by simp at hu) (by simp) (by simp) rfl hb h63
      exact ⟨A', c'', W', S', k1, k2, k3, fun b hb => by have := k4 b hb; simpa using this⟩
  · obtain ⟨g, off, rfl, hgB, h5⟩ := h4 h0
    obtain ⟨cs, hr, hl, hc⟩ := rows_of_flat (w' := W) hf (g := g) (off := off) ys 0 (fun i x hx => by
      obtain ⟨ec, hR, hcc⟩ := h5 i x hx
      exact ⟨ec, hR, fun j u hu => by rw [Nat.zero_add]; exact hcc j u hu⟩)
    obtain ⟨A', c'', W', S', k1, k2, k3, k4⟩ := run_append_set (P := P) (ty := ty) hE h (ad := ⟨g, off, none⟩) hr rfl (fun j u hu => by rw [Addr.add_lit]; simpa using hc j u hu) (by simp) (by simp) hL hb h63
    exact ⟨A', c'', W', S', k1, k2, k3, fun b hb => by have := k4 b hb; simpa using this⟩
theorem wpList_append_hasl (hgd : o.guard = none) (s x : Operand) (hE : Elem P t e T bytes) (hf : Flat T) {W : World} {S : List Nat} {A : Option Addr} {n c : Nat} {xs : List α} (h : Has (T.sl e) W [.slice A n c] xs S)
    {B : Nat} {e' : TypeId} {A2 : Option Addr} {m c2 : Nat} {ys : List α} (hy : (T.sl e').R W B [.slice A2 m c2] ys)
    (ho : o.op = .call { callee := .builtin .append, args := #[s, x], argTypes := #[t, t] }) (hs : a.eval s = .slice A n c) (hx : a.eval x = .slice A2 m c2)
    {L : Nat} (hL : L = n + m) (hb : L * bytes ≤ 140737488355328) (h63 : L ≤ 9223372036854775807)
    (hK : ∀ A' c'' W' S', OnlyS S W W' → Has (T.sl e) W' [.slice A' L c''] (xs ++ ys) S' → (∀ b ∈ S', b ∈ S ∨ W.heap.size ≤ b) → wpList P ops Q rest (a.put o.dst (.slice A' L c'')) W') : wpList P ops Q (o :: rest) a W :=
  wpList_plain hgd fun K hKK => by
    obtain ⟨A', c'', W', S', hrun, hon, hF, hS'⟩ := run_append_hasl (P := P) (ty := o.type) hE hf h hy hL hb h63
    exact wp_of_run_append s x ho hs hx hrun (hKK _ _ (hK A' c'' W' S' hon hF hS'))
end
theorem box1 {W : World} {g : Nat} {a : Value} {e : TypeId} (h : W.heap[g]? = some (.cells #[a] e (0, 0))) : W.cell? ⟨g, 0, none⟩ = some a ∧ W.frozen? ⟨g, 0, none⟩ = false := by
  refine ⟨?_, by simp [World.frozen?, h]⟩
  rw [cell_of_row W g _ _ _ (0, 0) h]
  rfl
theorem set1 {W : World} {g : Nat} {p : Value} {e : TypeId} (h : W.heap[g]? = some (.cells #[p] e (0, 0))) (a : Value) : (W.setCell ⟨g, 0, none⟩ a).heap[g]? = some (.cells #[a] e (0, 0)) ∧ OnlyS [g] W (W.setCell ⟨g, 0, none⟩ a) :=
  ⟨heap_setCell_at h 0 a, (OnlyS.refl _ _).setCell (p := ⟨g, 0, none⟩) (by simp) a⟩
end Go.Proofs.YtgodpjnbhmahaaaGreat
namespace Go.Proofs.YtgodpjnbhmahaaaGreat
open Go.RowKit
def RetOp (r : OpR) (w : World) (e : Ending) (w' : World) : Prop := e = .returned (.tuple #[.agg #[.int .i64 r.code, .int .i64 r.arg], .int .i64 r.n, .bool r.ok]) ∧ Gro w w'
theorem ret_op {r q : OpR} (h : r = q) {w w' : World} (hG : Gro w w') : RetOp r w (.returned (.tuple #[.agg #[.int .i64 q.code, .int .i64 q.arg], .int .i64 q.n, .bool q.ok])) w' := by
  subst h
  exact ⟨rfl, hG⟩
theorem or8_step {m j b : Nat} (hb : b < 256) (hj : j < 4) (hm : m < 256 ^ j) : bits .or .i64 (m : Int) (wrap64 ((b : Int) * 2 ^ (8 * j))) = ((m + b * 256 ^ j : Nat) : Int) := by
  have hp : 256 ^ (j + 1) ≤ 4294967296 := by
    have h := Nat.pow_le_pow_right (show 0 < 256 by omega) (show j + 1 ≤ 4 by omega)
    exact h
  have hmul : b * 256 ^ j ≤ 255 * 256 ^ j := Nat.mul_le_mul_right _ (by omega)
  have hs : (256 : Nat) ^ (j + 1) = 256 * 256 ^ j := by rw [Nat.pow_succ, Nat.mul_comm]
  have e0 : (2 : Int) ^ (8 * j) = ((256 ^ j : Nat) : Int) := by
    rw [Int.pow_mul, show (2 : Int) ^ 8 = ((256 : Nat) : Int) from by decide]
    exact (Int.natCast_pow 256 j).symm
  have e1 : ((b : Int) * 2 ^ (8 * j)) = ((b * 256 ^ j : Nat) : Int) := by rw [e0, ← Int.natCast_mul]
  have e2 : wrap64 ((b * 256 ^ j : Nat) : Int) = ((b * 256 ^ j : Nat) : Int) := wrap64_small (by omega) (by omega)
  rw [e1, e2, bits_or_comm, bits_join .i64 62 (by decide) wraps_i64 (8 * j) _ _ (by omega) (by rw [e0]; norm_cast; exact Nat.mul_mod_left _ _) (by norm_cast; omega) (by omega) (by rw [e0]; exact_mod_cast hm) (by norm_cast; omega)]
  omega
/-- the cell of a box of two set anew -/
theorem set2b {W : World} {g : Nat} {p q : Value} {e : TypeId} (h : W.heap[g]? = some (.cells #[p, q] e (0, 0))) (b : Value) : (W.setCell ⟨g, 1, none⟩ b).heap[g]? = some (.cells #[p, b] e (0, 0)) ∧ OnlyS [g] W (W.setCell ⟨g, 1, none⟩ b) :=
  ⟨heap_setCell_at h 1 b, (OnlyS.refl _ _).setCell (p := ⟨g, 1, none⟩) (by simp) b⟩
set_option maxRecDepth 100000 in
set_option maxHeartbeats 4000000 in
theorem decodeOp_i (s : ByteArray) (a : Int) (w : World) (hs : s.size ≤ 1099511627776) (ha : I64 a) : Calls Tryz.prog 264 #[.string s, .int .i64 a] w (RetOp (decOp s a) w) := by
  obtain ⟨ha1, ha2⟩ := ha
  cases hb : btw a 0 ((s.size : Int) - 1)
  · have HD := Lib.hid (decOp_no (s := s) (a := a) (fun h => by rw [btw_mk (by omega) (by omega)] at hb; cases hb))
    have HB := Lib.hid hb
    clear hb
    go_enter Tryz.func264, Tryz.ntmps264
    go_wp2_with (go_at_call 73; (with_reducible refine (in_i _ _ _ _).mono ?_); rw [HB.out]; rintro e w1 ⟨rfl, rfl⟩)
    exact bodyPost_ret (v := .tuple #[.agg #[.int .i64 0, .int .i64 0], .int .i64 0, .bool false]) (by simp [results, Tryz.results264, go_sem]) rfl (ret_op (q := ⟨0, 0, 0, false⟩) HD.out gG)
  · obtain ⟨hb1, hb2⟩ := btw_iff.1 hb
    have HB := Lib.hid hb
    clear hb
    obtain ⟨a, rfl⟩ := Int.eq_ofNat_of_zero_le hb1
    have hlt : a < s.size := by omega
    have hbn := byteN_get hlt
    obtain ⟨c, hc⟩ : ∃ c, byteN s a = c := ⟨_, rfl⟩
    have hc255 : c < 256 := hc ▸ byteN_lt s a
    rw [hc] at hbn
    have hx0 : 0 ≤ (s[a].toNat : Int) ∧ (s[a].toNat : Int) ≤ 255 := by omega
    by_cases hc17 : c ≤ 17
    case neg =>
      have HD := Lib.hid (decOp_no (s := s) (a := (a : Int)) (fun h => by rw [Int.toNat_natCast, hc] at h; exact hc17 h.2.2.1))
      have HZ := Lib.hid (show opSize (s[a].toNat : Int) = 0 from by rw [← hbn, opSize_def, if_neg (by simp [btw]; omega)])
      go_enter Tryz.func264, Tryz.ntmps264
      go_wp2_with (first
        | (go_at_call 73; (with_reducible refine (in_i _ _ _ _).mono ?_); rw [HB.out]; rintro e w1 ⟨rfl, rfl⟩)
        | (go_at_call 215; (with_reducible refine (opSize_i _ _).mono ?_); rw [HZ.out]; rintro e w1 ⟨rfl, rfl⟩))
      exact bodyPost_ret (v := .tuple #[.agg #[.int .i64 0, .int .i64 0], .int .i64 0, .bool false]) (by simp [results, Tryz.results264, go_sem]) rfl (ret_op (q := ⟨0, 0, 0, false⟩) HD.out gG)
    obtain ⟨n, sg, hw⟩ : ∃ n sg, opW (c : Int) = (n, sg) := ⟨_, _, rfl⟩
    have hcs := opW_cases (c : Int)
    rw [hw] at hcs
    have hn4 : n ≤ 4 := by have := opW_le (c : Int); rw [hw] at this; exact this
    have HZ := Lib.hid (show opSize (s[a].toNat : Int) = (n : Int) + 1 from by rw [← hbn, opSize_def, if_pos (btw_mk (by omega) (by omega)), hw])
    have HW := Lib.hid (show opW (s[a].toNat : Int) = (n, sg) from by rw [← hbn]; exact hw)
    by_cases hfit : a + 1 + n ≤ s.size
    case neg =>
      have HD := Lib.hid (decOp_no (s := s) (a := (a : Int)) (fun h => by rw [Int.toNat_natCast, hc, hw] at h; exact hfit h.2.2.2))
      have hg1 : ((n : Int) + 1 == 0) = false := by simp; omega
      have hg2 : decide ((s.size : Int) < (a : Int) + ((n : Int) + 1)) = true := decide_eq_true (by omega)
      clear hw hc hbn
      go_enter Tryz.func264, Tryz.ntmps264
      go_wp2_with (first
        | (go_at_call 73; (with_reducible refine (in_i _ _ _ _).mono ?_); rw [HB.out]; rintro e w1 ⟨rfl, rfl⟩)
        | (go_at_call 215; (with_reducible refine (opSize_i _ _).mono ?_); rw [HZ.out]; rintro e w1 ⟨rfl, rfl⟩))
      exact bodyPost_ret (v := .tuple #[.agg #[.int .i64 0, .int .i64 0], .int .i64 0, .bool false]) (by simp [results, Tryz.results264, go_sem]) rfl (ret_op (q := ⟨0, 0, 0, false⟩) HD.out gG)
    have HD := Lib.hid (decOp_yes hlt hc hc17 hw hfit)
    have hg1 : ((n : Int) + 1 == 0) = false := by simp; omega
    have hg2 : decide ((s.size : Int) < (a : Int) + ((n : Int) + 1)) = false := decide_eq_false (by omega)
    clear hw hc
    go_enter Tryz.func264, Tryz.ntmps264
    go_wp2_with (first
      | (go_at_call 73; (with_reducible refine (in_i _ _ _ _).mono ?_); rw [HB.out]; rintro e w1 ⟨rfl, rfl⟩)
      | (go_at_call 215; (with_reducible refine (opSize_i _ _).mono ?_); rw [HZ.out]; rintro e w1 ⟨rfl, rfl⟩)
      | (go_at_call 321; (with_reducible refine (argument_i _ _).mono ?_); rw [HW.out]; rintro e w1 ⟨rfl, rfl⟩))
    have hG : Gro w ((w.alloc (.cells #[.int .i64 0, .int .i64 0] 217)).alloc (.cells #[.int .i64 (s[a].toNat : Int), .int .i64 0] 217)) := gG
    have er : ((w.alloc (.cells #[.int .i64 0, .int .i64 0] 217)).alloc (.cells #[.int .i64 (s[a].toNat : Int), .int .i64 0] 217)).heap[w.heap.size]? = some (.cells #[.int .i64 0, .int .i64 0] 217 (0, 0)) := grow_blk (heap_alloc_new w _) gF
    have ex : ((w.alloc (.cells #[.int .i64 0, .int .i64 0] 217)).alloc (.cells #[.int .i64 (s[a].toNat : Int), .int .i64 0] 217)).heap[w.heap.size + 1]? = some (.cells #[.int .i64 (s[a].toNat : Int), .int .i64 0] 217 (0, 0)) := by
      have h := heap_alloc_new (w.alloc (.cells #[.int .i64 0, .int .i64 0] 217)) (.cells #[.int .i64 (s[a].toNat : Int), .int .i64 0] 217)
      rw [World.size_alloc] at h
      exact h
    obtain ⟨g, hg⟩ : ∃ g, w.heap.size = g := ⟨_, rfl⟩
    rw [hg] at er ex ⊢
    generalize ((w.alloc (.cells #[.int .i64 0, .int .i64 0] 217)).alloc (.cells #[.int .i64 (s[a].toNat : Int), .int .i64 0] 217)) = Y at hG er ex ⊢
    go_loopw [11] (fun x wr => ∃ (j : Nat), x = .int .i64 j ∧ j ≤ n ∧ Hid (wr.heap[g + 1]? = some (.cells #[.int .i64 (s[a].toNat : Int), .int .i64 (argU s (a + 1) j : Nat)] 217 (0, 0))) ∧ Hid (wr.heap[g]? = some (.cells #[.int .i64 0, .int .i64 0] 217 (0, 0))) ∧ Hid (Gro w wr)) (fun x _ => n - (intOf x).toNat)
    case atStart => exact ⟨0, rfl, by omega, Lib.hid ex, Lib.hid er, Lib.hid hG⟩
    case round =>
      clear hG er ex
      obtain ⟨j, rfl, hj, hx, hr, hG⟩ := hrel
      obtain ⟨x0, x1, xf0, xf1, xl⟩ := box2 hx.out
      by_cases hjn : j < n
      · have hin : a + 1 + j < s.size := by omega
        have hb := byteN_get hin
        have hb2 : 0 ≤ (s[a + 1 + j].toNat : Int) ∧ (s[a + 1 + j].toNat : Int) ≤ 255 := by have := s[a + 1 + j].toNat_lt; omega
        have hul := argU_lt s (a + 1) j
        have hor := or8_step (m := argU s (a + 1) j) (j := j) (b := s[a + 1 + j].toNat) (by omega) (by omega) hul
        have hun : argU s (a + 1) j + s[a + 1 + j].toNat * 256 ^ j = argU s (a + 1) (j + 1) := by rw [argU, hb]
        rw [hun] at hor
        have hul2 : argU s (a + 1) j < 4294967296 := Nat.lt_of_lt_of_le hul (Nat.pow_le_pow_right (by omega) (show j ≤ 4 by omega))
        obtain ⟨u, hu⟩ : ∃ u, argU s (a + 1) j = u := ⟨_, rfl⟩
        obtain ⟨v, hv⟩ : ∃ v, argU s (a + 1) (j + 1) = v := ⟨_, rfl⟩
        rw [hu] at hor x1 hul2
        rw [hv] at hor
        have HV := Lib.hid hv
        clear hul hun hb hu hv
        have hjn2 : (j : Int) < (n : Int) := by omega
        have w1 : IntKind.i64.wrap ((a : Int) + 1) = (a : Int) + 1 := IntWalk.i64_in _ (by omega)
        have w2 : IntKind.i64.wrap ((a : Int) + 1 + j) = (a : Int) + 1 + j := IntWalk.i64_in _ (by omega)
        have w3 : (0 : Int) ≤ (a : Int) + 1 + j := by omega
        have w4 : (a : Int) + 1 + j < s.size := by omega
        go_wp2_with (fail)
        go_region
        go_wp2_with (fail)
        have h2 := set2b hx.out (.int .i64 v)
        go_roundw
        case measure => (simp [intOf]; try omega)
        case rel => exact ⟨j + 1, by go_num, by omega, Lib.hid (by rw [HV.out]; exact h2.1), Lib.hid ((h2.2.block g (by omega) (by simp)).trans hr.out), Lib.hid ((h2.2.gro hG.out (fun b hb => by simp at hb; omega)).drew)⟩
      · obtain rfl : j = n := by omega
        have hul := argU_lt s (a + 1) j
        obtain ⟨u, hu⟩ : ∃ u, argU s (a + 1) j = u := ⟨_, rfl⟩
        rw [hu] at hul x1 HD
        have h0 := hr.out
        have hxo := hx.out
        rw [hu] at hxo
        clear hx hr
        obtain ⟨r0, r1, rf0, rf1, rl⟩ := box2 h0
        have hsg : (sg = true ∧ 2 ^ (8 * j - 1) ≤ u) ∨ ¬ (sg = true ∧ 2 ^ (8 * j - 1) ≤ u) := Classical.em _
        clear hu HB HZ HW hfit hg1 hg2
        rcases hsg with hsg | hsg
        · have hdd : decOp s (a : Int) = ⟨(c : Int), (u : Int) - 2 ^ (8 * j), j + 1, true⟩ := by rw [HD.out]; unfold argS; rw [if_pos hsg]
          have HQ := Lib.hid hdd
          obtain ⟨rfl, hsg⟩ := hsg
          clear hdd HD
          simp only [Prod.mk.injEq, Bool.true_eq_false, and_true, and_false, or_false, false_or] at hcs
          rcases hcs with rfl | rfl
          · skip
            have hge : (2147483648 : Int) ≤ (u : Int) := by simp at hsg; omega
            have hul3 : (u : Int) < 4294967296 := by simp at hul; omega
            have hw1 : IntKind.i64.wrap ((u : Int) - 4294967296) = (u : Int) - 4294967296 := IntWalk.i64_in _ ⟨by omega, by omega⟩
            clear hul hsg
            go_wp2_with (fail)
            go_region
            go_wp2_with (fail)
            go_region
            go_wp2_with (fail)
            have hk := set2b hxo (.int .i64 ((u : Int) - 4294967296))
            have h1 := (hk.2.block g (by omega) (by simp)).trans h0
            have h2 := set2 h1 (.int .i64 (s[a].toNat : Int)) (.int .i64 ((u : Int) - 4294967296))
            have hz := box2 h2.1
            refine bodyPost_ret (v := .tuple #[.agg #[.int .i64 (s[a].toNat : Int), .int .i64 ((u : Int) - 4294967296)], .int .i64 ((4 + 1 : Nat) : Int), .bool true]) (by simp [results, Tryz.results264, go_sem, hz, rl]) rfl ?_
            exact ret_op (q := ⟨(s[a].toNat : Int), (u : Int) - 4294967296, 4 + 1, true⟩) (by rw [HQ.out, hbn]; try rfl) ((h2.2.gro (hk.2.gro hG.out (fun b hb => by simp at hb; omega)) (fun b hb => by simp at hb; omega)).trans gF)
          · skip
            have hge : (32768 : Int) ≤ (u : Int) := by simp at hsg; omega
            have hul3 : (u : Int) < 65536 := by simp at hul; omega
            have hw1 : IntKind.i64.wrap ((u : Int) - 65536) = (u : Int) - 65536 := IntWalk.i64_in _ ⟨by omega, by omega⟩
            clear hul hsg
            go_wp2_with (fail)
            go_region
            go_wp2_with (fail)
            go_region
            go_wp2_with (fail)
            have hk := set2b hxo (.int .i64 ((u : Int) - 65536))
            have h1 := (hk.2.block g (by omega) (by simp)).trans h0
            have h2 := set2 h1 (.int .i64 (s[a].toNat : Int)) (.int .i64 ((u : Int) - 65536))
            have hz := box2 h2.1
            refine bodyPost_ret (v := .tuple #[.agg #[.int .i64 (s[a].toNat : Int), .int .i64 ((u : Int) - 65536)], .int .i64 ((2 + 1 : Nat) : Int), .bool true]) (by simp [results, Tryz.results264, go_sem, hz, rl]) rfl ?_
            exact ret_op (q := ⟨(s[a].toNat : Int), (u : Int) - 65536, 2 + 1, true⟩) (by rw [HQ.out, hbn]; try rfl) ((h2.2.gro (hk.2.gro hG.out (fun b hb => by simp at hb; omega)) (fun b hb => by simp at hb; omega)).trans gF)
        · have hdd : decOp s (a : Int) = ⟨(c : Int), (u : Int), j + 1, true⟩ := by rw [HD.out]; unfold argS; rw [if_neg hsg]
          have HQ := Lib.hid hdd
          clear hdd HD
          cases sg with
          | false =>
            clear hsg hcs hul
            go_wp2_with (fail)
            go_region
            go_wp2_with (fail)
            have h2 := set2 h0 (.int .i64 (s[a].toNat : Int)) (.int .i64 ((u : Int)))
            have hz := box2 h2.1
            refine bodyPost_ret (v := .tuple #[.agg #[.int .i64 (s[a].toNat : Int), .int .i64 ((u : Int))], .int .i64 ((j + 1 : Nat) : Int), .bool true]) (by simp [results, Tryz.results264, go_sem, hz, rl]) rfl ?_
            exact ret_op (q := ⟨(s[a].toNat : Int), (u : Int), j + 1, true⟩) (by rw [HQ.out, hbn]; try rfl) ((h2.2.gro hG.out (fun b hb => by simp at hb; omega)).trans gF)
          | true =>
            have hlt2 : ¬ 2 ^ (8 * j - 1) ≤ u := fun h => hsg ⟨rfl, h⟩
            simp only [Prod.mk.injEq, Bool.true_eq_false, and_true, and_false, or_false, false_or] at hcs
            rcases hcs with rfl | rfl
            · have hge : decide ((2147483648 : Int) ≤ (u : Int)) = false := decide_eq_false (by simp at hlt2; omega)
              clear hsg hlt2 hul
              go_wp2_with (fail)
              go_region
              go_wp2_with (fail)
              have h2 := set2 h0 (.int .i64 (s[a].toNat : Int)) (.int .i64 ((u : Int)))
              have hz := box2 h2.1
              refine bodyPost_ret (v := .tuple #[.agg #[.int .i64 (s[a].toNat : Int), .int .i64 ((u : Int))], .int .i64 ((4 + 1 : Nat) : Int), .bool true]) (by simp [results, Tryz.results264, go_sem, hz, rl]) rfl ?_
              exact ret_op (q := ⟨(s[a].toNat : Int), (u : Int), 4 + 1, true⟩) (by rw [HQ.out, hbn]; try rfl) ((h2.2.gro hG.out (fun b hb => by simp at hb; omega)).trans gF)
            · have hge : decide ((32768 : Int) ≤ (u : Int)) = false := decide_eq_false (by simp at hlt2; omega)
              clear hsg hlt2 hul
              go_wp2_with (fail)
              go_region
              go_wp2_with (fail)
              have h2 := set2 h0 (.int .i64 (s[a].toNat : Int)) (.int .i64 ((u : Int)))
              have hz := box2 h2.1
              refine bodyPost_ret (v := .tuple #[.agg #[.int .i64 (s[a].toNat : Int), .int .i64 ((u : Int))], .int .i64 ((2 + 1 : Nat) : Int), .bool true]) (by simp [results, Tryz.results264, go_sem, hz, rl]) rfl ?_
              exact ret_op (q := ⟨(s[a].toNat : Int), (u : Int), 2 + 1, true⟩) (by rw [HQ.out, hbn]; try rfl) ((h2.2.gro hG.out (fun b hb => by simp at hb; omega)).trans gF)
end Go.Proofs.YtgodpjnbhmahaaaGreat
namespace Go.Proofs.YtgodpjnbhmahaaaGreat
open Go.RowKit
theorem row3 {W : World} {g : Nat} {o0 o1 o2 : Value} {e : TypeId} (h : W.heap[g]? = some (.cells #[o0, o1, o2] e (0, 0))) :
    W.cell? ⟨g, 0, none⟩ = some o0 ∧ W.cell? ⟨g, 1, none⟩ = some o1 ∧ W.cell? ⟨g, 2, none⟩ = some o2 ∧ (∀ j, W.frozen? ⟨g, j, none⟩ = false) ∧ g < W.heap.size := by
  refine ⟨?_, ?_, ?_, fun j => by simp [World.frozen?, h], (Array.getElem?_eq_some_iff.1 h).1⟩
  all_goals
    rw [cell_of_row W g _ _ _ (0, 0) h]
    rfl
theorem row5 {W : World} {g : Nat} {o0 o1 o2 o3 o4 : Value} {e : TypeId} (h : W.heap[g]? = some (.cells #[o0, o1, o2, o3, o4] e (0, 0))) :
    W.cell? ⟨g, 0, none⟩ = some o0 ∧ W.cell? ⟨g, 1, none⟩ = some o1 ∧ W.cell? ⟨g, 2, none⟩ = some o2 ∧ W.cell? ⟨g, 3, none⟩ = some o3 ∧ W.cell? ⟨g, 4, none⟩ = some o4 ∧ (∀ j, W.frozen? ⟨g, j, none⟩ = false) ∧ g < W.heap.size := by
  refine ⟨?_, ?_, ?_, ?_, ?_, fun j => by simp [World.frozen?, h], (Array.getElem?_eq_some_iff.1 h).1⟩
  all_goals
    rw [cell_of_row W g _ _ _ (0, 0) h]
    rfl
theorem keep_thru {U W W' : World} {S : List Nat} {g i : Nat} {v : Value} (hc : U.cell? ⟨g, i, none⟩ = some v) (hg : Gro U W) (hon : OnlyS S W W') (hn : g ∉ S) : W'.cell? ⟨g, i, none⟩ = some v := by
  have hl := World.block_lt_of_cell? _ _ hc
  simp only at hl
  obtain ⟨os, d, rfl⟩ := hg
  exact (hon.cell (Nat.lt_of_lt_of_le hl (Gro.of U os d).size) hn i).trans (gro_keeps hc os d)
theorem frz_thru {U W W' : World} {S : List Nat} {g : Nat} {o : Obj} (hb : U.heap[g]? = some o) (hg : Gro U W) (hon : OnlyS S W W') (hn : g ∉ S) : W'.heap[g]? = some o := by
  have hl := (Array.getElem?_eq_some_iff.1 hb).1
  exact (hon.block g (Nat.lt_of_lt_of_le hl hg.size) hn).trans (grow_blk hb hg)
end Go.Proofs.YtgodpjnbhmahaaaGreat
namespace Go.Proofs.YtgodpjnbhmahaaaGreat
open Go.RowKit
section
variable {P : Program} {ops : Array Oper} {Q : Exit → Act → World → Prop} {md : Region.Mode} {S : World → Prop} {m : Nat}
/-- whatever order: S holds behind every operation but m -/
def AnyT (P : Program) (md : Region.Mode) (ops : Array Oper) (Q : Exit → Act → World → Prop) (S : World → Prop) (m : Nat) : Nat → Array Bool → Act → World → Prop
  | 0, listed, a, w => Region.ready md ops listed = [] ∧ Q .normal a w
  | f + 1, listed, a, w => (Region.ready md ops listed = [] → Q .normal a w) ∧
      ∀ i ∈ Region.ready md ops listed, wpOp P ops Q i (fun a' w' => (i ≠ m → S w') ∧ AnyT P md ops Q S m f (listed.setIfInBounds i true) a' w') a w
theorem AnyT.any : ∀ {f : Nat} {listed : Array Bool} {a : Act} {w : World}, AnyT P md ops Q S m f listed a w → wpAny P md ops Q f listed a w
  | 0, _, _, _, h => h
  | _ + 1, _, _, _, h => ⟨h.1, fun i hi => wpOp_mono (fun _ _ h' => h'.2.any) (h.2 i hi)⟩
/-- each number of the list waits for the one ahead of it, the first for i; the last is m -/
def linksB (md : Region.Mode) (ops : Array Oper) (m : Nat) : Nat → List Nat → Bool
  | i, [] => i == m
  | i, c :: cs => (match ops[c]? with
      | some o => o.after.any fun e => Region.binds md e && e.on == i
      | none => false) && linksB md ops m c cs
theorem links_not {listed : Array Bool} : ∀ (cs : List Nat) (i : Nat), linksB md ops m i cs = true → listed.getD i true = false → (∀ c ∈ cs, listed.getD c true = false) → (∀ c ∈ cs, c ∉ Region.ready md ops listed) ∧ (cs ≠ [] → m ∈ cs) := by
  intro cs
  induction cs with
  | nil => intro i _ _ _; simp
  | cons c cs ih =>
    intro i hl hi hc
    simp only [linksB, Bool.and_eq_true] at hl
    obtain ⟨hl1, hl2⟩ := hl
    have hcc := hc c (by simp)
    obtain ⟨h1, h2⟩ := ih c hl2 hcc (fun d hd => hc d (by simp [hd]))
    have hcn : c ∉ Region.ready md ops listed := by
      intro hr
      obtain ⟨_, o, ho, hall⟩ := mem_ready.1 hr
      rw [ho] at hl1
      obtain ⟨e, he, hb⟩ := Array.any_eq_true'.1 hl1
      simp only [Bool.and_eq_true, beq_iff_eq] at hb
      have h3 := hall e he hb.1
      rw [hb.2] at h3
      rcases Nat.lt_or_ge i listed.size with h' | h'
      · simp [h'] at hi h3
        rw [hi] at h3
        cases h3
      · simp [Array.getElem?_eq_none h'] at hi
    refine ⟨fun d hd => ?_, fun _ => ?_⟩
    · rcases List.mem_cons.1 hd with rfl | hd
      · exact hcn
      · exact h1 d hd
    · cases cs with
      | nil =>
        simp only [linksB, beq_iff_eq] at hl2
        subst hl2
        simp
      | cons d ds => exact List.mem_cons_of_mem _ (h2 (by simp))
/-- number i may be taken first -/
theorem AnyT.first {i : Nat} {oi : Oper} {v : Value} {cs : List Nat} (hi : ops[i]? = some oi) (hsel : Region.noSelect ops = true) (hlk : linksB md ops m i cs = true) (hne : cs ≠ [])
    (hQ : ∀ c a w, Q (.panic c) (a.put oi.dst v) w → Q (.panic c) a w) :
    ∀ (f : Nat) (listed : Array Bool) (a : Act) (w : World), (∀ j oj, ops[j]? = some oj → j ≠ i → listed.getD j true = false → (∀ e ∈ oj.after, Region.binds md e = true → e.on ≠ i) → oi.apart ops oj = true) →
      (∀ c ∈ cs, listed.getD c true = false) → i ∈ Region.ready md ops listed → YieldsIf P ops S oi v a → S w →
      AnyT P md ops Q S m f (listed.setIfInBounds i true) (a.put oi.dst v) w → AnyT P md ops Q S m (f + 1) listed a w := by
  intro f
  induction f with
  | zero =>
    intro listed a w _ _ hr hy hS H
    refine ⟨fun h => absurd hr (by rw [h]; simp), fun j hj => ?_⟩
    by_cases hji : j = i
    · subst hji
      exact hy.wpOp hi hS ⟨fun _ => hS, H⟩
    · exact absurd (ready_mono hj hji) (by rw [H.1]; simp)
  | succ f ih =>
    intro listed a w hfree hcs hr hy hS H
    have hiu := (mem_ready.1 hr).1
    obtain ⟨hcr, hcm⟩ := links_not cs i hlk hiu hcs
    refine ⟨fun h => absurd hr (by rw [h]; simp), fun j hj => ?_⟩
    by_cases hji : j = i
    · subst hji
      exact hy.wpOp hi hS ⟨fun _ => hS, H⟩
    · have hjm : j ≠ m := fun h => hcr j (h ▸ hcm hne) hj
      have hjc : j ∉ cs := fun h => hcr j h hj
      obtain ⟨hju, oj, hoj, hall⟩ := mem_ready.1 hj
      have hno : ∀ e ∈ oj.after, Region.binds md e = true → e.on ≠ i := by
        intro e he hb heq
        have h1 := hall e he hb
        rw [heq] at h1
        rcases Nat.lt_or_ge i listed.size with h' | h'
        · simp [h'] at hiu h1
          rw [hiu] at h1
          cases h1
        · simp [Array.getElem?_eq_none h'] at hiu
      have h2 := wpOp_putIf hoj (hfree j oj hoj hji hju hno) (fun c b => Region.noSelect_spec hsel i oi c b hi) (fun c b => Region.noSelect_spec hsel j oj c b hoj) hQ hy (H.2 j (ready_mono hj hji))
      refine wpOp_mono (fun a' w' h3 => ?_) h2
      obtain ⟨h4, h5, h6⟩ := h3
      refine ⟨h5, ih (listed.setIfInBounds j true) a' w' (fun k ok hk hki hun hnk => ?_) (fun c hc => ?_) (ready_mono hr (Ne.symm hji)) h4 (h5 hjm) (by rw [Array.setIfInBounds_comm _ _ hji]; exact h6)⟩
      · by_cases hjk : j = k
        · subst hjk
          exact hfree j ok hk hki hju hnk
        · rw [getD_set_ne true hjk] at hun
          exact hfree k ok hk hki hun hnk
      · rw [getD_set_ne true (show j ≠ c from fun h => hjc (by rw [h]; exact hc))]
        exact hcs c hc
def unlB (listed : Array Bool) (cs : List Nat) : Bool := cs.all fun c => !listed.getD c true
theorem AnyT.take {i : Nat} {oi : Oper} {v : Value} {cs : List Nat} {f : Nat} {listed : Array Bool} {a : Act} {w : World} (hi : ops[i]? = some oi) (hsel : Region.noSelect ops = true) (hf : Region.free md ops listed i = true) (hr : (Region.ready md ops listed).contains i = true)
    (hlk : linksB md ops m i cs = true) (hne : cs.isEmpty = false) (hun : unlB listed cs = true) (hQ : ∀ c a w, Q (.panic c) (a.put oi.dst v) w → Q (.panic c) a w) (hS : S w)
    (hw : Region.wanted oi (yielded ops a.tmps) = true) (hy : ∀ w, S w → (execOp a.eval oi).run P w = .ok (.value v) w)
    (h : AnyT P md ops Q S m f (listed.setIfInBounds i true) (a.put oi.dst v) w) : AnyT P md ops Q S m (f + 1) listed a w :=
  AnyT.first hi hsel hlk (by cases cs <;> simp at hne ⊢) hQ f listed a w (Region.free_spec hi hf) (fun c hc => by
    simp only [unlB, List.all_eq_true, Bool.not_eq_true'] at hun
    exact hun c hc) (by simpa using hr) (.inl ⟨hw, hy⟩) hS h
/-- one alone may come up, not the last -/
theorem AnyT.one {i : Nat} {o : Oper} {f : Nat} {listed : Array Bool} {a : Act} {w : World} (hr : Region.ready md ops listed = [i]) (ho : ops[i]? = some o)
    (h : ∀ K : Act → World → Prop, Hid (∀ a w, S w → (S w → AnyT P md ops Q S m f (listed.setIfInBounds i true) a w) → K a w) → if Region.wanted o (yielded ops a.tmps) = true then Oper.wp P o a w K Q else K (a.put o.dst undef) w) : AnyT P md ops Q S m (f + 1) listed a w :=
  ⟨fun h0 => absurd (hr.symm.trans h0) (by simp), fun j hj => by
    obtain rfl : j = i := by simpa [hr] using hj
    exact wpOp_step ho (fun K hK => h K (Lib.hid fun a w hS hT => hK a w ⟨fun _ => hS, hT hS⟩))⟩
/-- the last comes up -/
theorem AnyT.last {o : Oper} {f : Nat} {listed : Array Bool} {a : Act} {w : World} (hr : Region.ready md ops listed = [m]) (ho : ops[m]? = some o) (hd : Region.ready md ops (listed.setIfInBounds m true) = [])
    (h : ∀ K : Act → World → Prop, Hid (∀ a w, Q .normal a w → K a w) → if Region.wanted o (yielded ops a.tmps) = true then Oper.wp P o a w K Q else K (a.put o.dst undef) w) : AnyT P md ops Q S m (f + 1) listed a w :=
  ⟨fun h0 => absurd (hr.symm.trans h0) (by simp), fun j hj => by
    obtain rfl : j = m := by simpa [hr] using hj
    refine wpOp_step ho (fun K hK => h K (Lib.hid fun a w hq => hK a w ⟨fun h => absurd rfl h, ?_⟩))
    cases f with
    | zero => exact ⟨hd, hq⟩
    | succ f => exact ⟨fun _ => hq, by rw [hd]; simp⟩⟩
theorem region_T {id : Nat} {a : Act} {w : World} (S : World → Prop) (m : Nat) (hm : P.follows .mixedOrders = true) (hS : S w.drew)
    (h : S w.drew → AnyT P .any ops Q S m ops.size (Array.replicate ops.size false) a w.drew) : (Code.region id ops true).wp P Q a w :=
  wp_region_any hm (h hS).any
end
end Go.Proofs.YtgodpjnbhmahaaaGreat
namespace Go.Proofs.YtgodpjnbhmahaaaGreat
open Go.RowKit
section
variable {P : Program} {ops : Array Oper} {Q : Exit → Act → World → Prop} {md : Region.Mode} {S : World → Prop} {m : Nat}
end
/-- two lists of the call's own and an object, in a world that has grown from Y -/
structure J3 {α β : Type} (T : Ty α) (U : Ty β) (e f : TypeId) (Y W : World) (va vb : Value) (xa : List α) (xb : List β) (Sa Sb : List Nat) (go : Nat) (o : Obj) : Prop where
  ha : Has (T.sl e) W [va] xa Sa
  hb : Has (U.sl f) W [vb] xb Sb
  hab : ∀ b ∈ Sa, b ∉ Sb
  la : ∀ b ∈ Sa, Y.heap.size ≤ b
  lb : ∀ b ∈ Sb, Y.heap.size ≤ b
  hg : Gro Y W
  ho : W.heap[go]? = some o
  hoa : go ∉ Sa
  hob : go ∉ Sb
section
variable {α β : Type} {T : Ty α} {U : Ty β} {e f : TypeId} {Y W W' : World} {va vb : Value} {xa : List α} {xb : List β} {Sa Sb : List Nat} {go : Nat} {o : Obj}
theorem J3.gro (h : J3 T U e f Y W va vb xa xb Sa Sb go o) (hg : Gro W W') : J3 T U e f Y W' va vb xa xb Sa Sb go o :=
  ⟨h.ha.gro hg, h.hb.gro hg, h.hab, h.la, h.lb, h.hg.trans hg, grow_blk h.ho hg, h.hoa, h.hob⟩
theorem J3.start (ho : Y.heap[go]? = some o) : J3 T U e f Y Y (.slice none 0 0) (.slice none 0 0) [] [] [] [] go o :=
  ⟨Has.nil _ _ _, Has.nil _ _ _, by simp, by simp, by simp, Gro.refl _, ho, by simp, by simp⟩
theorem J3.cell {p : Addr} {v : Value} (h : J3 T U e f Y W va vb xa xb Sa Sb go o) (hc : Y.cell? p = some v) : W.cell? p = some v := by
  obtain ⟨os, d, hw⟩ := h.hg
  rw [hw]
  exact gro_keeps hc os d
theorem J3.store {o' : Obj} (h : J3 T U e f Y W va vb xa xb Sa Sb go o) (hon : OnlyS [go] W W') (ho' : W'.heap[go]? = some o') (hgo : Y.heap.size ≤ go) : J3 T U e f Y W' va vb xa xb Sa Sb go o' :=
  ⟨h.ha.keep hon (fun b hb hm => h.hoa (by simp at hm; exact hm ▸ hb)), h.hb.keep hon (fun b hb hm => h.hob (by simp at hm; exact hm ▸ hb)), h.hab, h.la, h.lb, hon.gro h.hg (fun b hb => by simp at hb; omega), ho', h.hoa, h.hob⟩
end
end Go.Proofs.YtgodpjnbhmahaaaGreat
namespace Go.Proofs.YtgodpjnbhmahaaaGreat
open Go.RowKit
set_option maxRecDepth 100000 in
set_option maxHeartbeats 2000000 in
theorem equalSym {xs ys : List DSymbol} {w : World} {v u : Value} (hx : (tSymbol.sl 193).R w w.heap.size [v] xs) (hy : (tSymbol.sl 193).R w w.heap.size [u] ys) :
    Calls Tryz.prog 185 #[v, u] w fun e w' => e = .returned (.bool (decide (xs = ys))) ∧ Gro w w' := by
  obtain ⟨A, c, rfl, h1, h2⟩ := sl_at hx
  obtain ⟨A', c', rfl, k1, k2⟩ := sl_at hy
  by_cases hl : xs.length = ys.length
  · have hne : ((xs.length : Int) != (ys.length : Int)) = false := by simp [hl]
    have HL := Lib.hid hl
    clear hl
    go_enter Tryz.func185, Tryz.ntmps185
    go_wp2_with (fail)
    go_loopw [13] (fun i wr => ∃ k : Nat, k ≤ xs.length ∧ i = .int .i64 k ∧ Hid (Gro w wr) ∧ Hid (xs.take k = ys.take k)) (fun i _ => xs.length - (intOf i).toNat)
    case atStart => exact ⟨0, Nat.zero_le _, rfl, Gro.refl _, Lib.hid (by simp)⟩
    case round =>
      obtain ⟨k, hk, rfl, hG, HT⟩ := hrel
      obtain ⟨os, d, rfl⟩ := hG.out
      clear hG
      by_cases hlt : k < xs.length
      · have hlt2 : k < ys.length := by rw [← HL.out]; exact hlt
        obtain ⟨g, off, x, rfl, hgb, hxk, hx0, hx1, hx2, bx0, bx1, bx2⟩ := atSymbol hx hlt
        obtain ⟨g', off', y, rfl, hgb', hyk, hy0, hy1, hy2, by0, by1, by2⟩ := atSymbol hy hlt2
        have HX := Lib.hid hxk
        have HY := Lib.hid hyk
        clear hxk hyk hx hy
        have hki : (k : Int) < (xs.length : Int) := by omega
        have hki2 : (k : Int) < (ys.length : Int) := by omega
        have q0 := gro_keeps hx0 os d
        have q1 := gro_keeps hx1 os d
        have q2 := gro_keeps hx2 os d
        have r0 := gro_keeps hy0 os d
        have r1 := gro_keeps hy1 os d
        have r2 := gro_keeps hy2 os d
        clear hx0 hx1 hx2 hy0 hy1 hy2
        by_cases hs : x.Name = y.Name
        · have hsb : (x.Name.toList == y.Name.toList) = true := by rw [str_eqb]; simp [hs]
          by_cases hc : x.Start = y.Start
          · have hcb : (x.Start == y.Start) = true := by simp [hc]
            by_cases hz : x.Size = y.Size
            · have hzb : (x.Size == y.Size) = true := by simp [hz]
              have HXY := Lib.hid (show x = y from by cases x; cases y; simp only at hs hc hz; rw [hs, hc, hz])
              clear hs hc hz
              go_wp2_with (fail)
              go_quiet (fail)
              go_wp2_with (fail)
              go_roundw
              case rel => exact ⟨k + 1, by omega, by go_num, Lib.hid gG, Lib.hid (by rw [take_snoc HX.out, take_snoc HY.out, HT.out, HXY.out])⟩
              case measure => simp [intOf]; omega
            · have hzb : (x.Size == y.Size) = false := by simp [hz]
              have HXY := Lib.hid (show x ≠ y from by rintro rfl; exact hz rfl)
              clear hs hc hz
              go_wp2_with (fail)
              go_quiet (fail)
              go_wp2_with (fail)
              go_ret
              refine ⟨ret_bool ?_, gG⟩
              symm
              simp only [decide_eq_false_iff_not]
              rintro rfl
              have h9 := HX.out.symm.trans HY.out
              simp at h9
              exact HXY.out h9
          · have hcb : (x.Start == y.Start) = false := by simp [hc]
            have HXY := Lib.hid (show x ≠ y from by rintro rfl; exact hc rfl)
            clear hs hc
            go_wp2_with (fail)
            go_quiet (fail)
            go_wp2_with (fail)
            go_ret
            refine ⟨ret_bool ?_, gG⟩
            symm
            simp only [decide_eq_false_iff_not]
            rintro rfl
            have h9 := HX.out.symm.trans HY.out
            simp at h9
            exact HXY.out h9
        · have hsb : (x.Name.toList == y.Name.toList) = false := by rw [str_eqb]; simp [hs]
          have HXY := Lib.hid (show x ≠ y from by rintro rfl; exact hs rfl)
          clear hs
          go_wp2_with (fail)
          go_quiet (fail)
          go_wp2_with (fail)
          go_ret
          refine ⟨ret_bool ?_, gG⟩
          symm
          simp only [decide_eq_false_iff_not]
          rintro rfl
          have h9 := HX.out.symm.trans HY.out
          simp at h9
          exact HXY.out h9
      · have hki : ¬ ((k : Int) < (xs.length : Int)) := by omega
        go_wp2_with (fail)
        go_ret
        refine ⟨ret_bool ?_, gG⟩
        have : k = xs.length := by omega
        subst this
        have h1 := HT.out
        rw [HL.out] at h1
        simp only [List.take_length] at h1
        rw [← HL.out] at h1
        simp at h1
        simp [h1]
  · have hne : ((xs.length : Int) != (ys.length : Int)) = true := by simp; omega
    go_enter Tryz.func185, Tryz.ntmps185
    go_wp2_with (fail)
    go_ret
    exact ⟨ret_bool (by symm; simp only [decide_eq_false_iff_not]; rintro rfl; exact hl rfl), gG⟩
/-- an image's number: its first k bytes -/
def idN (s : ByteArray) : Nat → Int
  | 0 => 7
  | k + 1 => (idN s k * 257 + byteN s k + 1) % 1000000007
theorem idN_bd (s : ByteArray) : ∀ k, 0 ≤ idN s k ∧ idN s k ≤ 1000000006
  | 0 => ⟨by show (0 : Int) ≤ 7; omega, by show (7 : Int) ≤ 1000000006; omega⟩
  | k + 1 => ⟨by unfold idN; omega, by unfold idN; omega⟩
set_option maxRecDepth 100000 in
set_option maxHeartbeats 2000000 in
theorem imageId_i {i : DImage} {w : World} {A : Option Addr} {c : Nat} (hs : i.Code.size ≤ 1099511627776) : Calls Tryz.prog 127 #[.agg #[.string i.Code, .slice A i.Symbols.length c]] w fun r w' => r = .returned (.int .i64 (idN i.Code i.Code.size)) ∧ Gro w w' := by
  have hG0 : Gro w (w.alloc (.cells #[.string i.Code, .slice A i.Symbols.length c] 113)) := gG
  have eb := heap_alloc_new w (.cells #[.string i.Code, .slice A i.Symbols.length c] 113)
  obtain ⟨g, hg⟩ : ∃ g, w.heap.size = g := ⟨_, rfl⟩
  go_enter Tryz.func127, Tryz.ntmps127
  go_wp2
  rw [hg] at eb
  generalize w.alloc (.cells #[.string i.Code, .slice A i.Symbols.length c] 113) = Y at hG0 eb ⊢
  obtain ⟨y0, y1, yf0, yf1, yl⟩ := box2 eb
  obtain ⟨s, hs'⟩ : ∃ s, i.Code = s := ⟨_, rfl⟩
  rw [hs'] at y0 hs ⊢
  have HCS := Lib.hid hs'
  clear hs' eb
  go_loopw [3, 4] (fun a b wr => ∃ k : Nat, a = .int .i64 (idN s k) ∧ b = .int .i64 k ∧ k ≤ s.size ∧ wr = Y) (fun _ b _ => s.size - (intOf b).toNat)
  case atStart => exact ⟨0, rfl, rfl, Nat.zero_le _, rfl⟩
  case round =>
    obtain ⟨k, rfl, rfl, hk, rfl⟩ := hrel
    by_cases hlt : k < s.size
    · have hb := byteN_get hlt
      have hb2 : 0 ≤ (s[k].toNat : Int) ∧ (s[k].toNat : Int) ≤ 255 := by have := s[k].toNat_lt; omega
      have hbd := idN_bd s k
      obtain ⟨u, hu⟩ : ∃ u, idN s k = u := ⟨_, rfl⟩
      have hv : (u * 257 + (s[k].toNat : Int) + 1) % 1000000007 = idN s (k + 1) := by rw [idN, hb, hu]
      have hv2 : (u * 257 + (s[k].toNat : Int) + 1).tmod 1000000007 = idN s (k + 1) := by rw [Int.tmod_eq_emod_of_nonneg (by omega), hv]
      rw [hu] at hbd ⊢
      obtain ⟨v, hvv⟩ : ∃ v, idN s (k + 1) = v := ⟨_, rfl⟩
      rw [hvv] at hv hv2
      have HV := Lib.hid hvv
      clear hu hb hvv
      have hki : (k : Int) < (s.size : Int) := by omega
      go_wp2_with (fail)
      go_roundw
      case measure => (simp [intOf]; try omega)
      case rel => exact ⟨k + 1, by rw [HV.out], by go_num, by omega, trivial⟩
    · obtain rfl : k = s.size := by omega
      have hki : ¬ ((s.size : Int) < (s.size : Int)) := by omega
      go_wp2_with (fail)
      go_ret
      exact ⟨ret_int (by rw [HCS.out]), hG0⟩
set_option maxRecDepth 100000 in
set_option maxHeartbeats 2000000 in
theorem imageId_s {i : DImage} {w : World} {A : Option Addr} {c : Nat} (hs : i.Code.size ≤ 1099511627776) : Calls Tryz.prog 118 #[.agg #[.string i.Code, .slice A i.Symbols.length c]] w fun r w' => r = .returned (.int .i64 (idN i.Code i.Code.size)) ∧ Gro w w' := by
  have hG0 : Gro w (w.alloc (.cells #[.string i.Code, .slice A i.Symbols.length c] 113)) := gG
  have eb := heap_alloc_new w (.cells #[.string i.Code, .slice A i.Symbols.length c] 113)
  obtain ⟨g, hg⟩ : ∃ g, w.heap.size = g := ⟨_, rfl⟩
  go_enter Tryz.func118, Tryz.ntmps118
  go_wp2
  rw [hg] at eb
  generalize w.alloc (.cells #[.string i.Code, .slice A i.Symbols.length c] 113) = Y at hG0 eb ⊢
  obtain ⟨y0, y1, yf0, yf1, yl⟩ := box2 eb
  obtain ⟨s, hs'⟩ : ∃ s, i.Code = s := ⟨_, rfl⟩
  rw [hs'] at y0 hs ⊢
  have HCS := Lib.hid hs'
  clear hs' eb
  go_loopw [3, 4] (fun a b wr => ∃ k : Nat, a = .int .i64 (idN s k) ∧ b = .int .i64 k ∧ k ≤ s.size ∧ wr = Y) (fun _ b _ => s.size - (intOf b).toNat)
  case atStart => exact ⟨0, rfl, rfl, Nat.zero_le _, rfl⟩
  case round =>
    obtain ⟨k, rfl, rfl, hk, rfl⟩ := hrel
    by_cases hlt : k < s.size
    · have hb := byteN_get hlt
      have hb2 : 0 ≤ (s[k].toNat : Int) ∧ (s[k].toNat : Int) ≤ 255 := by have := s[k].toNat_lt; omega
      have hbd := idN_bd s k
      obtain ⟨u, hu⟩ : ∃ u, idN s k = u := ⟨_, rfl⟩
      have hv : (u * 257 + (s[k].toNat : Int) + 1) % 1000000007 = idN s (k + 1) := by rw [idN, hb, hu]
      have hv2 : (u * 257 + (s[k].toNat : Int) + 1).tmod 1000000007 = idN s (k + 1) := by rw [Int.tmod_eq_emod_of_nonneg (by omega), hv]
      rw [hu] at hbd ⊢
      obtain ⟨v, hvv⟩ : ∃ v, idN s (k + 1) = v := ⟨_, rfl⟩
      rw [hvv] at hv hv2
      have HV := Lib.hid hvv
      clear hu hb hvv
      have hki : (k : Int) < (s.size : Int) := by omega
      go_wp2_with (fail)
      go_roundw
      case measure => (simp [intOf]; try omega)
      case rel => exact ⟨k + 1, by rw [HV.out], by go_num, by omega, trivial⟩
    · obtain rfl : k = s.size := by omega
      have hki : ¬ ((s.size : Int) < (s.size : Int)) := by omega
      go_wp2_with (fail)
      go_ret
      exact ⟨ret_int (by rw [HCS.out]), hG0⟩
def fitsD (i : DImage) (d : DDebug) : Bool := decide (d.Id = idN i.Code i.Code.size) && decide (i.Symbols = d.Symbols)
set_option maxRecDepth 100000 in
set_option maxHeartbeats 2000000 in
theorem debugFits_i {i : DImage} {d : DDebug} {w : World} {A B0 B1 B2 B3 : Option Addr} {c e0 e1 e2 e3 : Nat} (hx : (tSymbol.sl 193).R w w.heap.size [.slice A i.Symbols.length c] i.Symbols) (hy : (tSymbol.sl 193).R w w.heap.size [.slice B0 d.Symbols.length e0] d.Symbols) (hs : i.Code.size ≤ 1099511627776) :
    Calls Tryz.prog 95 #[.agg #[.string i.Code, .slice A i.Symbols.length c], .agg #[.int .i64 d.Id, .slice B0 d.Symbols.length e0, .slice B1 d.Rules.length e1, .slice B2 d.Rows.length e2, .slice B3 d.Inlines.length e3]] w fun r w' => r = .returned (.bool (fitsD i d)) ∧ Gro w w' := by
  have hG0 : Gro w ((w.alloc (.cells #[.string i.Code, .slice A i.Symbols.length c] 113)).alloc (.cells #[.int .i64 d.Id, .slice B0 d.Symbols.length e0, .slice B1 d.Rules.length e1, .slice B2 d.Rows.length e2, .slice B3 d.Inlines.length e3] 97)) := gG
  have eb : ((w.alloc (.cells #[.string i.Code, .slice A i.Symbols.length c] 113)).alloc (.cells #[.int .i64 d.Id, .slice B0 d.Symbols.length e0, .slice B1 d.Rules.length e1, .slice B2 d.Rows.length e2, .slice B3 d.Inlines.length e3] 97)).heap[w.heap.size]? = some (.cells #[.string i.Code, .slice A i.Symbols.length c] 113 (0, 0)) := grow_blk (heap_alloc_new w _) gF
  have ed : ((w.alloc (.cells #[.string i.Code, .slice A i.Symbols.length c] 113)).alloc (.cells #[.int .i64 d.Id, .slice B0 d.Symbols.length e0, .slice B1 d.Rules.length e1, .slice B2 d.Rows.length e2, .slice B3 d.Inlines.length e3] 97)).heap[w.heap.size + 1]? = some (.cells #[.int .i64 d.Id, .slice B0 d.Symbols.length e0, .slice B1 d.Rules.length e1, .slice B2 d.Rows.length e2, .slice B3 d.Inlines.length e3] 97 (0, 0)) := by
    have h := heap_alloc_new (w.alloc (.cells #[.string i.Code, .slice A i.Symbols.length c] 113)) (.cells #[.int .i64 d.Id, .slice B0 d.Symbols.length e0, .slice B1 d.Rules.length e1, .slice B2 d.Rows.length e2, .slice B3 d.Inlines.length e3] 97)
    rw [World.size_alloc] at h
    exact h
  have kx := Ty.up _ hx hG0
  have ky := Ty.up _ hy hG0
  obtain ⟨g, hg⟩ : ∃ g, w.heap.size = g := ⟨_, rfl⟩
  obtain ⟨u, hu⟩ : ∃ u, idN i.Code i.Code.size = u := ⟨_, rfl⟩
  have HU := Lib.hid hu
  have HF := Lib.hid (show fitsD i d = (decide (d.Id = u) && decide (i.Symbols = d.Symbols)) from by unfold fitsD; rw [hu])
  clear hu
  go_enter Tryz.func95, Tryz.ntmps95
  go_upto_region 1 with (fail)
  rw [hg] at eb ed
  generalize ((w.alloc (.cells #[.string i.Code, .slice A i.Symbols.length c] 113)).alloc (.cells #[.int .i64 d.Id, .slice B0 d.Symbols.length e0, .slice B1 d.Rules.length e1, .slice B2 d.Rows.length e2, .slice B3 d.Inlines.length e3] 97)) = Y at hG0 eb ed kx ky ⊢
  clear hx hy
  obtain ⟨y0, y1, yf0, yf1, yl⟩ := box2 eb
  obtain ⟨z0, z1, z2, z3, z4, zf, zl⟩ := row5 ed
  by_cases hid : d.Id = u
  · have hq : (d.Id == u) = true := by simp [hid]
    have hq2 : decide (d.Id = u) = true := by simp [hid]
    have HF2 := Lib.hid (show fitsD i d = decide (i.Symbols = d.Symbols) from by rw [HF.out, hq2, Bool.true_and])
    clear hid hq2
    go_region_held3 (fun w' => w'.cell? ⟨g, 0, none⟩ = some (.string i.Code) ∧ w'.cell? ⟨g, 1, none⟩ = some (.slice A i.Symbols.length c) ∧ w'.cell? ⟨g + 1, 0, none⟩ = some (.int .i64 d.Id) ∧ w'.cell? ⟨g + 1, 1, none⟩ = some (.slice B0 d.Symbols.length e0)) ((repeat' apply And.intro) <;> (first | ((repeat (first | assumption | with_reducible refine gro_keeps ?_ _ _ | with_reducible refine alloc_keeps ?_ _ | with_reducible refine drew_keeps ?_)); done) | (simp [go_sem]; done))) (first
      | (go_at_call 127; (with_reducible refine (imageId_i (i := i) hs).mono ?_); rw [HU.out]; rintro e w1 ⟨rfl, os1, d1, rfl⟩)
      | (go_at_call 185; (with_reducible refine (equalSym (xs := i.Symbols) (ys := d.Symbols) (Ty.up _ kx gG) (Ty.up _ ky gG)).mono ?_); rintro e w2 ⟨rfl, os2, d2, rfl⟩))
    go_wp2_with (fail)
    go_ret
    exact ⟨ret_bool HF2.out.symm, hG0.trans gG⟩
  · have hq : (d.Id == u) = false := by simp [hid]
    have HF2 := Lib.hid (show fitsD i d = false from by rw [HF.out]; simp [hid])
    clear hid
    first | (go_region_law (first | (go_simp; go_at_call 127; refine (imageId_i (i := i) hs).mono ?_; rw [HU.out]; rintro e w1 ⟨rfl, os1, d1, rfl⟩))) | fail
    all_goals
      go_wp2_with (fail)
      go_ret
      exact ⟨ret_bool HF2.out.symm, hG0.trans gG⟩
set_option maxRecDepth 100000 in
set_option maxHeartbeats 2000000 in
theorem debugFits_s {i : DImage} {d : DDebug} {w : World} {A B0 B1 B2 B3 : Option Addr} {c e0 e1 e2 e3 : Nat} (hx : (tSymbol.sl 193).R w w.heap.size [.slice A i.Symbols.length c] i.Symbols) (hy : (tSymbol.sl 193).R w w.heap.size [.slice B0 d.Symbols.length e0] d.Symbols) (hs : i.Code.size ≤ 1099511627776) :
    Calls Tryz.prog 61 #[.agg #[.string i.Code, .slice A i.Symbols.length c], .agg #[.int .i64 d.Id, .slice B0 d.Symbols.length e0, .slice B1 d.Rules.length e1, .slice B2 d.Rows.length e2, .slice B3 d.Inlines.length e3]] w fun r w' => r = .returned (.bool (fitsD i d)) ∧ Gro w w' := by
  have hG0 : Gro w ((w.alloc (.cells #[.string i.Code, .slice A i.Symbols.length c] 113)).alloc (.cells #[.int .i64 d.Id, .slice B0 d.Symbols.length e0, .slice B1 d.Rules.length e1, .slice B2 d.Rows.length e2, .slice B3 d.Inlines.length e3] 97)) := gG
  have eb : ((w.alloc (.cells #[.string i.Code, .slice A i.Symbols.length c] 113)).alloc (.cells #[.int .i64 d.Id, .slice B0 d.Symbols.length e0, .slice B1 d.Rules.length e1, .slice B2 d.Rows.length e2, .slice B3 d.Inlines.length e3] 97)).heap[w.heap.size]? = some (.cells #[.string i.Code, .slice A i.Symbols.length c] 113 (0, 0)) := grow_blk (heap_alloc_new w _) gF
  have ed : ((w.alloc (.cells #[.string i.Code, .slice A i.Symbols.length c] 113)).alloc (.cells #[.int .i64 d.Id, .slice B0 d.Symbols.length e0, .slice B1 d.Rules.length e1, .slice B2 d.Rows.length e2, .slice B3 d.Inlines.length e3] 97)).heap[w.heap.size + 1]? = some (.cells #[.int .i64 d.Id, .slice B0 d.Symbols.length e0, .slice B1 d.Rules.length e1, .slice B2 d.Rows.length e2, .slice B3 d.Inlines.length e3] 97 (0, 0)) := by
    have h := heap_alloc_new (w.alloc (.cells #[.string i.Code, .slice A i.Symbols.length c] 113)) (.cells #[.int .i64 d.Id, .slice B0 d.Symbols.length e0, .slice B1 d.Rules.length e1, .slice B2 d.Rows.length e2, .slice B3 d.Inlines.length e3] 97)
    rw [World.size_alloc] at h
    exact h
  have kx := Ty.up _ hx hG0
  have ky := Ty.up _ hy hG0
  obtain ⟨g, hg⟩ : ∃ g, w.heap.size = g := ⟨_, rfl⟩
  obtain ⟨u, hu⟩ : ∃ u, idN i.Code i.Code.size = u := ⟨_, rfl⟩
  have HU := Lib.hid hu
  have HF := Lib.hid (show fitsD i d = (decide (d.Id = u) && decide (i.Symbols = d.Symbols)) from by unfold fitsD; rw [hu])
  clear hu
  go_enter Tryz.func61, Tryz.ntmps61
  go_upto_region 1 with (fail)
  rw [hg] at eb ed
  generalize ((w.alloc (.cells #[.string i.Code, .slice A i.Symbols.length c] 113)).alloc (.cells #[.int .i64 d.Id, .slice B0 d.Symbols.length e0, .slice B1 d.Rules.length e1, .slice B2 d.Rows.length e2, .slice B3 d.Inlines.length e3] 97)) = Y at hG0 eb ed kx ky ⊢
  clear hx hy
  have hyl : d.Symbols.length ≤ 9223372036854775807 := by obtain ⟨A9, c9, h1, h2, h3⟩ := sl_at ky; omega
  obtain ⟨y0, y1, yf0, yf1, yl⟩ := box2 eb
  obtain ⟨z0, z1, z2, z3, z4, zf, zl⟩ := row5 ed
  by_cases hid : d.Id = u
  · have hq : (d.Id != u) = false := by simp [hid]
    have hq2 : decide (d.Id = u) = true := by simp [hid]
    have HF2 := Lib.hid (show fitsD i d = decide (i.Symbols = d.Symbols) from by rw [HF.out, hq2, Bool.true_and])
    clear hid hq2
    by_cases hl : d.Symbols.length = i.Symbols.length
    · have hne : ((d.Symbols.length : Int) != (i.Symbols.length : Int)) = false := by simp [hl]
      have HL := Lib.hid hl
      clear hl
      go_region_held3 (fun w' => w'.cell? ⟨g, 0, none⟩ = some (.string i.Code) ∧ w'.cell? ⟨g, 1, none⟩ = some (.slice A i.Symbols.length c) ∧ w'.cell? ⟨g + 1, 0, none⟩ = some (.int .i64 d.Id) ∧ w'.cell? ⟨g + 1, 1, none⟩ = some (.slice B0 d.Symbols.length e0)) ((repeat' apply And.intro) <;> (first | ((repeat (first | assumption | with_reducible refine gro_keeps ?_ _ _ | with_reducible refine alloc_keeps ?_ _ | with_reducible refine drew_keeps ?_)); done) | (simp [go_sem]; done))) (first
        | (go_at_call 118; (with_reducible refine (imageId_s (i := i) hs).mono ?_); rw [HU.out]; rintro e w1 ⟨rfl, os1, d1, rfl⟩))
      go_wp2_with (fail)
      go_loopw [5] (fun a wr => ∃ k : Nat, k ≤ d.Symbols.length ∧ a = .int .i64 k ∧ Hid (Gro Y wr) ∧ Hid (i.Symbols.take k = d.Symbols.take k)) (fun a _ => d.Symbols.length - (intOf a).toNat)
      case atStart => exact ⟨0, Nat.zero_le _, rfl, Lib.hid gG, Lib.hid (by simp)⟩
      case round =>
        obtain ⟨k, hk, rfl, hG, HT⟩ := hrel
        obtain ⟨os, dd, rfl⟩ := hG.out
        clear hG
        have z0 := gro_keeps z0 os dd
        have z1 := gro_keeps z1 os dd
        have y0 := gro_keeps y0 os dd
        have y1 := gro_keeps y1 os dd
        by_cases hlt : k < d.Symbols.length
        · have hlt2 : k < i.Symbols.length := by rw [← HL.out]; exact hlt
          obtain ⟨gx, offx, x, rfl, hgb, hxk, hx0, hx1, hx2, bx0, bx1, bx2⟩ := atSymbol kx hlt2
          obtain ⟨gy, offy, y, rfl, hgb', hyk, hy0, hy1, hy2, by0, by1, by2⟩ := atSymbol ky hlt
          have HX := Lib.hid hxk
          have HY := Lib.hid hyk
          clear hxk hyk kx ky
          have hki : (k : Int) < (d.Symbols.length : Int) := by omega
          have hki2 : (k : Int) < (i.Symbols.length : Int) := by omega
          have q0 := gro_keeps hx0 os dd
          have q1 := gro_keeps hx1 os dd
          have q2 := gro_keeps hx2 os dd
          have r0 := gro_keeps hy0 os dd
          have r1 := gro_keeps hy1 os dd
          have r2 := gro_keeps hy2 os dd
          clear hx0 hx1 hx2 hy0 hy1 hy2
          by_cases hs' : y.Name = x.Name
          · have hsb : (y.Name.toList == x.Name.toList) = true := by rw [str_eqb]; simp [hs']
            by_cases hc : y.Start = x.Start
            · have hcb : (y.Start == x.Start) = true := by simp [hc]
              by_cases hz : y.Size = x.Size
              · have hzb : (y.Size == x.Size) = true := by simp [hz]
                have HXY := Lib.hid (show x = y from by cases x; cases y; simp only at hs' hc hz; rw [hs', hc, hz])
                clear hs' hc hz
                go_wp2_with (fail)
                go_quiet (fail)
                go_wp2_with (fail)
                go_roundw
                case rel => exact ⟨k + 1, by omega, by go_num, Lib.hid gG, Lib.hid (by rw [take_snoc HX.out, take_snoc HY.out, HT.out, HXY.out])⟩
                case measure => simp [intOf]; omega
              · have hzb : (y.Size == x.Size) = false := by simp [hz]
                have HXY := Lib.hid (show x ≠ y from by rintro rfl; exact hz rfl)
                clear hs' hc hz
                go_wp2_with (fail)
                go_quiet (fail)
                go_wp2_with (fail)
                go_ret
                refine ⟨ret_bool ?_, hG0.trans gG⟩
                rw [HF2.out]
                symm
                simp only [decide_eq_false_iff_not]
                intro h8
                have h9 := HX.out.symm.trans ((congrArg (fun l => l[k]?) h8).trans HY.out)
                simp at h9
                exact HXY.out h9
            · have hcb : (y.Start == x.Start) = false := by simp [hc]
              have HXY := Lib.hid (show x ≠ y from by rintro rfl; exact hc rfl)
              clear hs' hc
              go_wp2_with (fail)
              go_quiet (fail)
              go_wp2_with (fail)
              go_ret
              refine ⟨ret_bool ?_, hG0.trans gG⟩
              rw [HF2.out]
              symm
              simp only [decide_eq_false_iff_not]
              intro h8
              have h9 := HX.out.symm.trans ((congrArg (fun l => l[k]?) h8).trans HY.out)
              simp at h9
              exact HXY.out h9
          · have hsb : (y.Name.toList == x.Name.toList) = false := by rw [str_eqb]; simp [hs']
            have HXY := Lib.hid (show x ≠ y from by rintro rfl; exact hs' rfl)
            clear hs'
            go_wp2_with (fail)
            go_quiet (fail)
            go_wp2_with (fail)
            go_ret
            refine ⟨ret_bool ?_, hG0.trans gG⟩
            rw [HF2.out]
            symm
            simp only [decide_eq_false_iff_not]
            intro h8
            have h9 := HX.out.symm.trans ((congrArg (fun l => l[k]?) h8).trans HY.out)
            simp at h9
            exact HXY.out h9
        · have hki : ¬ ((k : Int) < (d.Symbols.length : Int)) := by omega
          go_wp2_with (fail)
          go_ret
          refine ⟨ret_bool ?_, hG0.trans gG⟩
          have : k = d.Symbols.length := by omega
          subst this
          have h1 := HT.out
          rw [HL.out] at h1
          simp only [List.take_length] at h1
          rw [← HL.out] at h1
          simp at h1
          rw [HF2.out]
          simp [h1]
    · have hne : ((d.Symbols.length : Int) != (i.Symbols.length : Int)) = true := by simp; omega
      have HF3 := Lib.hid (show fitsD i d = false from by rw [HF2.out]; simp only [decide_eq_false_iff_not]; intro h; exact hl (congrArg List.length h).symm)
      clear hl
      go_region_held3 (fun w' => w'.cell? ⟨g, 0, none⟩ = some (.string i.Code) ∧ w'.cell? ⟨g, 1, none⟩ = some (.slice A i.Symbols.length c) ∧ w'.cell? ⟨g + 1, 0, none⟩ = some (.int .i64 d.Id) ∧ w'.cell? ⟨g + 1, 1, none⟩ = some (.slice B0 d.Symbols.length e0)) ((repeat' apply And.intro) <;> (first | ((repeat (first | assumption | with_reducible refine gro_keeps ?_ _ _ | with_reducible refine alloc_keeps ?_ _ | with_reducible refine drew_keeps ?_)); done) | (simp [go_sem]; done))) (first
        | (go_at_call 118; (with_reducible refine (imageId_s (i := i) hs).mono ?_); rw [HU.out]; rintro e w1 ⟨rfl, os1, d1, rfl⟩))
      go_wp2_with (fail)
      go_ret
      exact ⟨ret_bool HF3.out.symm, hG0.trans gG⟩
  · have hq : (d.Id != u) = true := by simp [hid]
    have HF2 := Lib.hid (show fitsD i d = false from by rw [HF.out]; simp [hid])
    clear hid
    first | (go_region_law (first | (go_simp; go_at_call 118; refine (imageId_s (i := i) hs).mono ?_; rw [HU.out]; rintro e w1 ⟨rfl, os1, d1, rfl⟩))) | fail
    all_goals
      go_wp2_with (fail)
      go_ret
      exact ⟨ret_bool HF2.out.symm, hG0.trans gG⟩
end Go.Proofs.YtgodpjnbhmahaaaGreat
