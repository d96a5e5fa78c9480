/-
  PROCDONE: the contracts of ProcessDone.
-/
import Derived.Test.YtfhcegblnhagjaaProcOk
set_option linter.unusedVariables false
set_option linter.unusedSimpArgs false
namespace Go.Proofs.Ytfhcegblnhagjaa
open Go.RowKit
def procDone (x : DProcess) : Bool := x.Threads.all (fun m => decide (m.State = 1)) && procOk x
set_option maxRecDepth 100000 in
set_option maxHeartbeats 4000000 in
theorem procDone_i {x : DProcess} {w : World} {A0 A1 A2 A3 : Option Addr} {c0 c1 c2 c3 : Nat} (h0 : (tImage.sl 103).R w w.heap.size [.slice A0 x.Space.Images.length c0] x.Space.Images) (h1 : (intT.sl 3).R w w.heap.size [.slice A1 x.Space.Bases.length c1] x.Space.Bases)
    (h2 : (intT.sl 3).R w w.heap.size [.slice A2 x.Space.Entries.length c2] x.Space.Entries) (h3 : (tMachine.sl 80).R w w.heap.size [.slice A3 x.Threads.length c3] x.Threads) (hs : szProcess x ≤ 1099511627776) :
    Calls Try.prog 16 #[.agg #[.slice A0 x.Space.Images.length c0, .slice A1 x.Space.Bases.length c1, .slice A2 x.Space.Entries.length c2, .slice A3 x.Threads.length c3, .int .i64 x.Turn, .int .i64 x.Left, .int .i64 x.Slice]] w fun r w' => r = .returned (.bool (procDone x)) ∧ Gro w w' := by
  obtain ⟨_, _, hx', htl, htm⟩ := sl_at h3
  injection hx' with e1 e2 e3
  subst e1 e3
  clear e2
  obtain ⟨bp, hp⟩ : ∃ b, procOk x = b := ⟨_, rfl⟩
  have HQ := Lib.hid (show procDone x = (x.Threads.all (fun m => decide (m.State = 1)) && bp) from by unfold procDone; rw [hp])
  have HP := Lib.hid hp
  clear hp
  go_enter Try.func16, Try.ntmps16
  go_wp2_with (fail)
  have hG0 : Gro w (w.alloc (.cells #[.slice A0 x.Space.Images.length c0, .slice A1 x.Space.Bases.length c1, .slice A2 x.Space.Entries.length c2, .slice A3 x.Threads.length c3, .int .i64 x.Turn, .int .i64 x.Left, .int .i64 x.Slice] 36)) := (by repeat (first | with_reducible exact Gro.refl _ | with_reducible exact Gro.refl_drew _ _ _ | with_reducible exact Gro.refl_drewN _ _ _ _ | assumption | with_reducible apply Gro.more | with_reducible apply Gro.alloc | with_reducible apply Gro.drew | with_reducible apply Gro.drewN))
  have eb := heap_alloc_new w (.cells #[.slice A0 x.Space.Images.length c0, .slice A1 x.Space.Bases.length c1, .slice A2 x.Space.Entries.length c2, .slice A3 x.Threads.length c3, .int .i64 x.Turn, .int .i64 x.Left, .int .i64 x.Slice] 36)
  have k0 := Ty.up _ h0 hG0
  have k1 := Ty.up _ h1 hG0
  have k2 := Ty.up _ h2 hG0
  have k3 := Ty.up _ h3 hG0
  obtain ⟨g0, hg0⟩ : ∃ g0, w.heap.size = g0 := ⟨_, rfl⟩
  rw [hg0] at eb ⊢
  generalize (w.alloc (.cells #[.slice A0 x.Space.Images.length c0, .slice A1 x.Space.Bases.length c1, .slice A2 x.Space.Entries.length c2, .slice A3 x.Threads.length c3, .int .i64 x.Turn, .int .i64 x.Left, .int .i64 x.Slice] 36)) = Y at hG0 eb k0 k1 k2 k3 ⊢
  have hc := fun k => cell_of_row Y g0 k _ _ (0, 0) eb
  have y0 : Y.cell? ⟨g0, 0, none⟩ = some (.slice A0 x.Space.Images.length c0) := hc 0
  have y1 : Y.cell? ⟨g0, 1, none⟩ = some (.slice A1 x.Space.Bases.length c1) := hc 1
  have y2 : Y.cell? ⟨g0, 2, none⟩ = some (.slice A2 x.Space.Entries.length c2) := hc 2
  have y3 : Y.cell? ⟨g0, 3, none⟩ = some (.slice A3 x.Threads.length c3) := hc 3
  have y4 : Y.cell? ⟨g0, 4, none⟩ = some (.int .i64 x.Turn) := hc 4
  have y5 : Y.cell? ⟨g0, 5, none⟩ = some (.int .i64 x.Left) := hc 5
  have y6 : Y.cell? ⟨g0, 6, none⟩ = some (.int .i64 x.Slice) := hc 6
  have yl : g0 < Y.heap.size := (Array.getElem?_eq_some_iff.1 eb).1
  clear h0 h1 h2 h3 hg0 hc eb
  go_loopw [8] (fun z wr => ∃ k : Nat, z = .int .i64 k ∧ k ≤ x.Threads.length ∧ Hid ((x.Threads.drop k).all (fun m => decide (m.State = 1)) = x.Threads.all (fun m => decide (m.State = 1))) ∧ Hid (Gro Y wr)) (fun z _ => x.Threads.length - (intOf z).toNat)
  case atStart => exact ⟨0, rfl, Nat.zero_le _, Lib.hid rfl, Lib.hid (Gro.refl _)⟩
  case round =>
    obtain ⟨k, rfl, hk, hE, hG⟩ := hrel
    obtain ⟨os, d, rfl⟩ := hG.out
    clear hG
    have y3' := gro_keeps y3 os d
    by_cases hlt : k < x.Threads.length
    · obtain ⟨g, off, y, Aa, ca, Ab, cb, rfl, hgb, hyk, m0, m1, m2, m3, m4, m5, m6, _⟩ := atMachine k3 hlt
      have ha := all_at hyk (fun m => decide (m.State = 1))
      rw [hE.out] at ha
      have n0 := gro_keeps m0 os d
      have n1 := gro_keeps m1 os d
      have n2 := gro_keeps m2 os d
      have n3 := gro_keeps m3 os d
      have n4 := gro_keeps m4 os d
      have n5 := gro_keeps m5 os d
      have n6 := gro_keeps m6 os d
      have hki : (k : Int) < (x.Threads.length : Int) := by omega
      clear hyk hE m0 m1 m2 m3 m4 m5 m6
      by_cases hst : y.State = 1
      case neg =>
        have HR := Lib.hid (show procDone x = false from by rw [HQ.out, ha]; simp [hst])
        have p1 : (y.State != 1) = true := by simp [hst]
        clear ha hst
        go_wp2_with (fail)
        go_ret
        exact ⟨ret_bool HR.out.symm, hG0.trans (by (repeat (first | with_reducible exact Gro.refl _ | with_reducible exact Gro.refl_drew _ _ _ | with_reducible exact Gro.refl_drewN _ _ _ _ | assumption | with_reducible apply Gro.more | with_reducible apply Gro.alloc | with_reducible apply Gro.drew | with_reducible apply Gro.drewN)); done)⟩
      have HR := Lib.hid (show (x.Threads.drop (k + 1)).all (fun m => decide (m.State = 1)) = x.Threads.all (fun m => decide (m.State = 1)) from by rw [ha]; simp [hst])
      have p1 : (y.State != 1) = false := by simp [hst]
      clear ha hst
      go_wp2_with (fail)
      go_roundw
      case measure => (simp [intOf]; try omega)
      case rel => exact ⟨k + 1, by go_num, by omega, HR, Lib.hid (by repeat (first | with_reducible exact Gro.refl _ | with_reducible exact Gro.refl_drew _ _ _ | with_reducible exact Gro.refl_drewN _ _ _ _ | assumption | with_reducible apply Gro.more | with_reducible apply Gro.alloc | with_reducible apply Gro.drew | with_reducible apply Gro.drewN))⟩
    · obtain rfl : k = x.Threads.length := by omega
      have HR := Lib.hid (show procDone x = bp from by rw [HQ.out, ← hE.out, List.drop_length]; rfl)
      have z0 := gro_keeps y0 os d
      have z1 := gro_keeps y1 os d
      have z2 := gro_keeps y2 os d
      have z3 := gro_keeps y3 os d
      have z4 := gro_keeps y4 os d
      have z5 := gro_keeps y5 os d
      have z6 := gro_keeps y6 os d
      clear hE
      go_wp2_with (go_at_call 13; (with_reducible refine (procOk_i (x := x) (Ty.up _ k0 (by repeat (first | with_reducible exact Gro.refl _ | with_reducible exact Gro.refl_drew _ _ _ | with_reducible exact Gro.refl_drewN _ _ _ _ | assumption | with_reducible apply Gro.more | with_reducible apply Gro.alloc | with_reducible apply Gro.drew | with_reducible apply Gro.drewN))) (Ty.up _ k1 (by repeat (first | with_reducible exact Gro.refl _ | with_reducible exact Gro.refl_drew _ _ _ | with_reducible exact Gro.refl_drewN _ _ _ _ | assumption | with_reducible apply Gro.more | with_reducible apply Gro.alloc | with_reducible apply Gro.drew | with_reducible apply Gro.drewN))) (Ty.up _ k2 (by repeat (first | with_reducible exact Gro.refl _ | with_reducible exact Gro.refl_drew _ _ _ | with_reducible exact Gro.refl_drewN _ _ _ _ | assumption | with_reducible apply Gro.more | with_reducible apply Gro.alloc | with_reducible apply Gro.drew | with_reducible apply Gro.drewN))) (Ty.up _ k3 (by repeat (first | with_reducible exact Gro.refl _ | with_reducible exact Gro.refl_drew _ _ _ | with_reducible exact Gro.refl_drewN _ _ _ _ | assumption | with_reducible apply Gro.more | with_reducible apply Gro.alloc | with_reducible apply Gro.drew | with_reducible apply Gro.drewN))) hs).mono ?_); rw [HP.out]; rintro e w1 ⟨rfl, os1, d1, rfl⟩)
      go_ret
      exact ⟨ret_bool HR.out.symm, hG0.trans (by (repeat (first | with_reducible exact Gro.refl _ | with_reducible exact Gro.refl_drew _ _ _ | with_reducible exact Gro.refl_drewN _ _ _ _ | assumption | with_reducible apply Gro.more | with_reducible apply Gro.alloc | with_reducible apply Gro.drew | with_reducible apply Gro.drewN)); done)⟩
set_option maxRecDepth 100000 in
set_option maxHeartbeats 4000000 in
theorem procDone_s {x : DProcess} {w : World} {A0 A1 A2 A3 : Option Addr} {c0 c1 c2 c3 : Nat} (h0 : (tImage.sl 103).R w w.heap.size [.slice A0 x.Space.Images.length c0] x.Space.Images) (h1 : (intT.sl 3).R w w.heap.size [.slice A1 x.Space.Bases.length c1] x.Space.Bases)
    (h2 : (intT.sl 3).R w w.heap.size [.slice A2 x.Space.Entries.length c2] x.Space.Entries) (h3 : (tMachine.sl 80).R w w.heap.size [.slice A3 x.Threads.length c3] x.Threads) (hs : szProcess x ≤ 1099511627776) :
    Calls Try.prog 15 #[.agg #[.slice A0 x.Space.Images.length c0, .slice A1 x.Space.Bases.length c1, .slice A2 x.Space.Entries.length c2, .slice A3 x.Threads.length c3, .int .i64 x.Turn, .int .i64 x.Left, .int .i64 x.Slice]] w fun r w' => r = .returned (.bool (procDone x)) ∧ Gro w w' := by
  obtain ⟨_, _, hx', htl, htm⟩ := sl_at h3
  injection hx' with e1 e2 e3
  subst e1 e3
  clear e2
  obtain ⟨bp, hp⟩ : ∃ b, procOk x = b := ⟨_, rfl⟩
  have HQ := Lib.hid (show procDone x = (x.Threads.all (fun m => decide (m.State = 1)) && bp) from by unfold procDone; rw [hp])
  have HP := Lib.hid hp
  clear hp
  go_enter Try.func15, Try.ntmps15
  go_wp2_with (fail)
  have hG0 : Gro w (w.alloc (.cells #[.slice A0 x.Space.Images.length c0, .slice A1 x.Space.Bases.length c1, .slice A2 x.Space.Entries.length c2, .slice A3 x.Threads.length c3, .int .i64 x.Turn, .int .i64 x.Left, .int .i64 x.Slice] 36)) := (by repeat (first | with_reducible exact Gro.refl _ | with_reducible exact Gro.refl_drew _ _ _ | with_reducible exact Gro.refl_drewN _ _ _ _ | assumption | with_reducible apply Gro.more | with_reducible apply Gro.alloc | with_reducible apply Gro.drew | with_reducible apply Gro.drewN))
  have eb := heap_alloc_new w (.cells #[.slice A0 x.Space.Images.length c0, .slice A1 x.Space.Bases.length c1, .slice A2 x.Space.Entries.length c2, .slice A3 x.Threads.length c3, .int .i64 x.Turn, .int .i64 x.Left, .int .i64 x.Slice] 36)
  have k0 := Ty.up _ h0 hG0
  have k1 := Ty.up _ h1 hG0
  have k2 := Ty.up _ h2 hG0
  have k3 := Ty.up _ h3 hG0
  obtain ⟨g0, hg0⟩ : ∃ g0, w.heap.size = g0 := ⟨_, rfl⟩
  rw [hg0] at eb ⊢
  generalize (w.alloc (.cells #[.slice A0 x.Space.Images.length c0, .slice A1 x.Space.Bases.length c1, .slice A2 x.Space.Entries.length c2, .slice A3 x.Threads.length c3, .int .i64 x.Turn, .int .i64 x.Left, .int .i64 x.Slice] 36)) = Y at hG0 eb k0 k1 k2 k3 ⊢
  have hc := fun k => cell_of_row Y g0 k _ _ (0, 0) eb
  have y0 : Y.cell? ⟨g0, 0, none⟩ = some (.slice A0 x.Space.Images.length c0) := hc 0
  have y1 : Y.cell? ⟨g0, 1, none⟩ = some (.slice A1 x.Space.Bases.length c1) := hc 1
  have y2 : Y.cell? ⟨g0, 2, none⟩ = some (.slice A2 x.Space.Entries.length c2) := hc 2
  have y3 : Y.cell? ⟨g0, 3, none⟩ = some (.slice A3 x.Threads.length c3) := hc 3
  have y4 : Y.cell? ⟨g0, 4, none⟩ = some (.int .i64 x.Turn) := hc 4
  have y5 : Y.cell? ⟨g0, 5, none⟩ = some (.int .i64 x.Left) := hc 5
  have y6 : Y.cell? ⟨g0, 6, none⟩ = some (.int .i64 x.Slice) := hc 6
  have yl : g0 < Y.heap.size := (Array.getElem?_eq_some_iff.1 eb).1
  clear h0 h1 h2 h3 hg0 hc eb
  go_loopw [3] (fun z wr => ∃ k : Nat, z = .int .i64 k ∧ k ≤ x.Threads.length ∧ Hid ((x.Threads.drop k).all (fun m => decide (m.State = 1)) = x.Threads.all (fun m => decide (m.State = 1))) ∧ Hid (Gro Y wr)) (fun z _ => x.Threads.length - (intOf z).toNat)
  case atStart => exact ⟨0, rfl, Nat.zero_le _, Lib.hid rfl, Lib.hid (Gro.refl _)⟩
  case round =>
    obtain ⟨k, rfl, hk, hE, hG⟩ := hrel
    obtain ⟨os, d, rfl⟩ := hG.out
    clear hG
    have y3' := gro_keeps y3 os d
    by_cases hlt : k < x.Threads.length
    · obtain ⟨g, off, y, Aa, ca, Ab, cb, rfl, hgb, hyk, m0, m1, m2, m3, m4, m5, m6, _⟩ := atMachine k3 hlt
      have ha := all_at hyk (fun m => decide (m.State = 1))
      rw [hE.out] at ha
      have n0 := gro_keeps m0 os d
      have n1 := gro_keeps m1 os d
      have n2 := gro_keeps m2 os d
      have n3 := gro_keeps m3 os d
      have n4 := gro_keeps m4 os d
      have n5 := gro_keeps m5 os d
      have n6 := gro_keeps m6 os d
      have hki : (k : Int) < (x.Threads.length : Int) := by omega
      clear hyk hE m0 m1 m2 m3 m4 m5 m6
      by_cases hst : y.State = 1
      case neg =>
        have HR := Lib.hid (show procDone x = false from by rw [HQ.out, ha]; simp [hst])
        have p1 : (y.State != 1) = true := by simp [hst]
        clear ha hst
        go_wp2_with (fail)
        go_ret
        exact ⟨ret_bool HR.out.symm, hG0.trans (by (repeat (first | with_reducible exact Gro.refl _ | with_reducible exact Gro.refl_drew _ _ _ | with_reducible exact Gro.refl_drewN _ _ _ _ | assumption | with_reducible apply Gro.more | with_reducible apply Gro.alloc | with_reducible apply Gro.drew | with_reducible apply Gro.drewN)); done)⟩
      have HR := Lib.hid (show (x.Threads.drop (k + 1)).all (fun m => decide (m.State = 1)) = x.Threads.all (fun m => decide (m.State = 1)) from by rw [ha]; simp [hst])
      have p1 : (y.State != 1) = false := by simp [hst]
      clear ha hst
      go_wp2_with (fail)
      go_roundw
      case measure => (simp [intOf]; try omega)
      case rel => exact ⟨k + 1, by go_num, by omega, HR, Lib.hid (by repeat (first | with_reducible exact Gro.refl _ | with_reducible exact Gro.refl_drew _ _ _ | with_reducible exact Gro.refl_drewN _ _ _ _ | assumption | with_reducible apply Gro.more | with_reducible apply Gro.alloc | with_reducible apply Gro.drew | with_reducible apply Gro.drewN))⟩
    · obtain rfl : k = x.Threads.length := by omega
      have HR := Lib.hid (show procDone x = bp from by rw [HQ.out, ← hE.out, List.drop_length]; rfl)
      have z0 := gro_keeps y0 os d
      have z1 := gro_keeps y1 os d
      have z2 := gro_keeps y2 os d
      have z3 := gro_keeps y3 os d
      have z4 := gro_keeps y4 os d
      have z5 := gro_keeps y5 os d
      have z6 := gro_keeps y6 os d
      clear hE
      go_wp2_with (go_at_call 11; (with_reducible refine (procOk_s (x := x) (Ty.up _ k0 (by repeat (first | with_reducible exact Gro.refl _ | with_reducible exact Gro.refl_drew _ _ _ | with_reducible exact Gro.refl_drewN _ _ _ _ | assumption | with_reducible apply Gro.more | with_reducible apply Gro.alloc | with_reducible apply Gro.drew | with_reducible apply Gro.drewN))) (Ty.up _ k1 (by repeat (first | with_reducible exact Gro.refl _ | with_reducible exact Gro.refl_drew _ _ _ | with_reducible exact Gro.refl_drewN _ _ _ _ | assumption | with_reducible apply Gro.more | with_reducible apply Gro.alloc | with_reducible apply Gro.drew | with_reducible apply Gro.drewN))) (Ty.up _ k2 (by repeat (first | with_reducible exact Gro.refl _ | with_reducible exact Gro.refl_drew _ _ _ | with_reducible exact Gro.refl_drewN _ _ _ _ | assumption | with_reducible apply Gro.more | with_reducible apply Gro.alloc | with_reducible apply Gro.drew | with_reducible apply Gro.drewN))) (Ty.up _ k3 (by repeat (first | with_reducible exact Gro.refl _ | with_reducible exact Gro.refl_drew _ _ _ | with_reducible exact Gro.refl_drewN _ _ _ _ | assumption | with_reducible apply Gro.more | with_reducible apply Gro.alloc | with_reducible apply Gro.drew | with_reducible apply Gro.drewN))) hs).mono ?_); rw [HP.out]; rintro e w1 ⟨rfl, os1, d1, rfl⟩)
      go_ret
      exact ⟨ret_bool HR.out.symm, hG0.trans (by (repeat (first | with_reducible exact Gro.refl _ | with_reducible exact Gro.refl_drew _ _ _ | with_reducible exact Gro.refl_drewN _ _ _ _ | assumption | with_reducible apply Gro.more | with_reducible apply Gro.alloc | with_reducible apply Gro.drew | with_reducible apply Gro.drewN)); done)⟩
end Go.Proofs.Ytfhcegblnhagjaa
