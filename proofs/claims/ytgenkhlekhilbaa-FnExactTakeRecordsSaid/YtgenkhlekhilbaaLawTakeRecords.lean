/-
  The law FnExactTakeRecords answers true for every input: the program's TakeRecords and the reference's both give takeR; the argument stays; the program's ring and list are of their own memory and hold their marks. No condition.
-/
import Derived.Test.YtgenkhlekhilbaaRows
import Derived.Test.YtgenkhlekhilbaaOpen
import Derived.Test.YtgenkhlekhilbaaRing2
import Derived.ShutString
namespace Go.Proofs.Ytgenkhlekhilbaa.fnExactTakeRecords
open Go.ChangeShapes Go.WideShapes Go.ChangeAt Go.RowKit
open Go.ChangeMaps (open_string shut_string)
theorem own : ownKnob Try.prog.godebug = none := by kernel_rfl
theorem laidOut : laidOutB Try.prog = true := by kernel_rfl
theorem take_len (r : DRing) (n : Int) : (takeR r n).1.Records.length ≤ r.Records.length ∧ (takeR r n).2.length ≤ r.Records.length := by
  unfold takeR
  split <;> simp <;> omega
theorem keepOnly {α : Type} (T : Ty α) {w0 a b : World} {cs : List Value} {x : α} {S S' : List Nat} (h : T.O w0 cs x S) (hs : OnlyS S' a b) (hg : Gro w0 a) (hd : ∀ k ∈ S, k ∉ S') : T.O b cs x S :=
  T.keepO (T.groO h hg) fun k hk => hs.block k (T.ltO (T.groO h hg) k hk) (hd k hk)
theorem above {S S' : List Nat} {X Y : Nat} (_ : ∀ b ∈ S, X ≤ b) (h : ∀ b ∈ S', Y ≤ b) (hxy : X ≤ Y) : ∀ b ∈ S', X ≤ b := fun b hb => Nat.le_trans hxy (h b hb)
theorem mk_rec {w : World} {x : DRing} {k : Int} {S : List Nat} {A : Option Addr} {c : Nat} (h : tRing.O w [.int .i64 x.Capacity, .slice A x.Records.length c, .int .i64 x.Written, .int .i64 x.Lost] (mkRing x k) S) : (strT.sl 9).O w [.slice A x.Records.length c] (mkStrs x.Records k) S := by
  obtain ⟨A1, c1, S1, hc, rfl, _, h1, _⟩ := tRing_O h
  simp only [List.cons.injEq, Value.slice.injEq, and_true] at hc
  obtain ⟨_, ⟨rfl, _, rfl⟩, _⟩ := hc
  have e : (mkRing x k).Records.length = x.Records.length := mkStrs_length _ _
  rw [e] at h1
  exact h1
theorem fresh_split {w W : World} {p : DRing × List ByteArray} {A A1 : Option Addr} {c c1 : Nat} (h : Fresh (tRing.prod (strT.sl 9)) w W [.int .i64 p.1.Capacity, .slice A p.1.Records.length c, .int .i64 p.1.Written, .int .i64 p.1.Lost, .slice A1 p.2.length c1] p) :
    ∃ S S', tRing.O W [.int .i64 p.1.Capacity, .slice A p.1.Records.length c, .int .i64 p.1.Written, .int .i64 p.1.Lost] p.1 S ∧ S.Nodup ∧ (∀ b ∈ S, w.heap.size ≤ b) ∧ (strT.sl 9).O W [.slice A1 p.2.length c1] p.2 S' ∧ S'.Nodup ∧ (∀ b ∈ S', w.heap.size ≤ b) ∧ (∀ b ∈ S, b ∉ S') := by
  obtain ⟨S0, ⟨d1, d2, S1, S2, hc, rfl, h1, h2⟩, hN, hL⟩ := h
  obtain ⟨A', c', S1', rfl, _⟩ := id (tRing_O h1)
  simp only [List.cons_append, List.nil_append, List.cons.injEq, Value.slice.injEq, true_and] at hc
  obtain ⟨⟨rfl, rfl⟩, rfl⟩ := hc
  obtain ⟨hN1, hN2, hd⟩ := List.nodup_append.1 hN
  exact ⟨S1, S2, h1, hN1, fun b hb => hL b (List.mem_append_left _ hb), h2, hN2, fun b hb => hL b (List.mem_append_right _ hb), fun b hb hb' => hd b hb b hb' rfl⟩
set_option maxHeartbeats 2000000 in
theorem walk (w : World) (cs : Array Value) (r : DRing) (h : tRing.R w w.heap.size cs.toList r) (n : Int) (_ : -9223372036854775808 ≤ n) (_ : n ≤ 9223372036854775807) :
    Calls Try.prog 13 #[.agg cs, .int .i64 n] w fun e w' => e = .returned (.bool true) ∧ Gro w w' := by
  obtain ⟨A0, c0, hcs, h0, h1, h2, h3⟩ := tRing_R h
  obtain rfl := Array.toList_inj.1 (show cs.toList = (#[.int .i64 r.Capacity, .slice A0 r.Records.length c0, .int .i64 r.Written, .int .i64 r.Lost] : Array Value).toList from hcs)
  clear h hcs
  by_cases hsz : szRing r ≤ 1048576
  · have hl : r.Records.length ≤ 1048576 := Nat.le_trans (Nat.le_add_right _ _) hsz
    have hs : sumS r.Records ≤ 1048576 := Nat.le_trans (Nat.le_add_left _ _) hsz
    have e0 : szRes 1048576 (szRing r) = 1048576 - (szRing r : Nat) := if_pos (by omega)
    obtain ⟨p, hp, hcn, hcm⟩ : ∃ p, Hid (takeR r n = p) ∧ cntRing p.1 ≤ 1048577 ∧ p.2.length ≤ 1048577 := ⟨_, Lib.hid rfl, by have := take_len r n; unfold cntRing; omega, by have := take_len r n; omega⟩
    go_enter Try.func13, Try.ntmps13
    go_wp2_with (fail)
    refine (szRing_l (x := r) (Ty.up _ h1 (by repeat (first | with_reducible exact Gro.refl _ | with_reducible exact Gro.refl_drew _ _ _ | with_reducible exact Gro.refl_drewN _ _ _ _ | assumption | with_reducible apply Gro.more | with_reducible apply Gro.alloc | with_reducible apply Gro.drew | with_reducible apply Gro.drewN))) (by omega) (by omega)).mono ?_
    rintro e w1 ⟨rfl, os0, d0, rfl⟩
    go_wp2_with (fail)
    refine (toRing_l (x := r) h0 (Ty.up _ h1 (by repeat (first | with_reducible exact Gro.refl _ | with_reducible exact Gro.refl_drew _ _ _ | with_reducible exact Gro.refl_drewN _ _ _ _ | assumption | with_reducible apply Gro.more | with_reducible apply Gro.alloc | with_reducible apply Gro.drew | with_reducible apply Gro.drewN))) h2 h3 (by omega)).mono ?_
    rintro e w1 ⟨A1, c1, rfl, hF1, os1, d1, rfl⟩
    go_wp2_with (fail)
    refine (take_s (r := r) h0 (Ty.up _ (ring_rec hF1).read (by repeat (first | with_reducible exact Gro.refl _ | with_reducible exact Gro.refl_drew _ _ _ | with_reducible exact Gro.refl_drewN _ _ _ _ | assumption | with_reducible apply Gro.more | with_reducible apply Gro.alloc | with_reducible apply Gro.drew | with_reducible apply Gro.drewN))) h2 h3 (by omega) (by omega)).mono ?_
    rw [hp.out]
    rintro e w1 ⟨A2, c2, B2, e2, rfl, hF2, os2, d2, rfl⟩
    go_wp2_with (fail)
    refine (toRing_l (x := r) h0 (Ty.up _ h1 (by repeat (first | with_reducible exact Gro.refl _ | with_reducible exact Gro.refl_drew _ _ _ | with_reducible exact Gro.refl_drewN _ _ _ _ | assumption | with_reducible apply Gro.more | with_reducible apply Gro.alloc | with_reducible apply Gro.drew | with_reducible apply Gro.drewN))) h2 h3 (by omega)).mono ?_
    rintro e w1 ⟨A3, c3, rfl, hF3, os3, d3, rfl⟩
    go_wp2_with (fail)
    refine (take_i (r := r) h0 (Ty.up _ (ring_rec hF3).read (by repeat (first | with_reducible exact Gro.refl _ | with_reducible exact Gro.refl_drew _ _ _ | with_reducible exact Gro.refl_drewN _ _ _ _ | assumption | with_reducible apply Gro.more | with_reducible apply Gro.alloc | with_reducible apply Gro.drew | with_reducible apply Gro.drewN))) h2 h3 (by omega) (by omega)).mono ?_
    rw [hp.out]
    rintro e w1 ⟨A4, c4, B4, e4, rfl, hF4, os4, d4, rfl⟩
    obtain ⟨S2, T2, hO2, hN2, hL2, hP2, hM2, hK2, hD2⟩ := fresh_split hF2
    obtain ⟨S4, T4, hO4, hN4, hL4, hP4, hW4, hK4, hD4⟩ := fresh_split hF4
    have hU2 := Ty.ltO _ hO2
    have hU4 := Ty.ltO _ hO4
    have hV2 := Ty.ltO _ hP2
    have hV4 := Ty.ltO _ hP4
    go_wp2_with (fail)
    refine (eqRing_l (x := p.1) (y := p.1) (Ty.up _ (ring_rec ⟨_, hO4, hN4, hL4⟩).read (by repeat (first | with_reducible exact Gro.refl _ | with_reducible exact Gro.refl_drew _ _ _ | with_reducible exact Gro.refl_drewN _ _ _ _ | assumption | with_reducible apply Gro.more | with_reducible apply Gro.alloc | with_reducible apply Gro.drew | with_reducible apply Gro.drewN))) (Ty.up _ (ring_rec ⟨_, hO2, hN2, hL2⟩).read (by repeat (first | with_reducible exact Gro.refl _ | with_reducible exact Gro.refl_drew _ _ _ | with_reducible exact Gro.refl_drewN _ _ _ _ | assumption | with_reducible apply Gro.more | with_reducible apply Gro.alloc | with_reducible apply Gro.drew | with_reducible apply Gro.drewN)))).mono ?_
    rintro e w1 ⟨rfl, os5, d5, rfl⟩
    go_wp2_with (fail)
    refine (eqStringS_l (xs := p.2) (ys := p.2) (Ty.up _ (Ty.read _ hP4) (by repeat (first | with_reducible exact Gro.refl _ | with_reducible exact Gro.refl_drew _ _ _ | with_reducible exact Gro.refl_drewN _ _ _ _ | assumption | with_reducible apply Gro.more | with_reducible apply Gro.alloc | with_reducible apply Gro.drew | with_reducible apply Gro.drewN))) (Ty.up _ (Ty.read _ hP2) (by repeat (first | with_reducible exact Gro.refl _ | with_reducible exact Gro.refl_drew _ _ _ | with_reducible exact Gro.refl_drewN _ _ _ _ | assumption | with_reducible apply Gro.more | with_reducible apply Gro.alloc | with_reducible apply Gro.drew | with_reducible apply Gro.drewN)))).mono ?_
    rintro e w1 ⟨rfl, os16, d16, rfl⟩
    go_wp2_with (fail)
    go_region_held3 (fun w' => w'.cell? ⟨w.heap.size + 1 + os0.size + os1.size + os2.size + 1 + os3.size, 0, none⟩ = some (.int .i64 r.Capacity) ∧ w'.cell? ⟨w.heap.size + 1 + os0.size + os1.size + os2.size + 1 + os3.size, 1, none⟩ = some (.slice A3 r.Records.length c3) ∧ w'.cell? ⟨w.heap.size + 1 + os0.size + os1.size + os2.size + 1 + os3.size, 2, none⟩ = some (.int .i64 r.Written) ∧ w'.cell? ⟨w.heap.size + 1 + os0.size + os1.size + os2.size + 1 + os3.size, 3, none⟩ = some (.int .i64 r.Lost) ∧ w'.cell? ⟨w.heap.size, 0, none⟩ = some (.int .i64 r.Capacity) ∧ w'.cell? ⟨w.heap.size, 1, none⟩ = some (.slice A0 r.Records.length c0) ∧ w'.cell? ⟨w.heap.size, 2, none⟩ = some (.int .i64 r.Written) ∧ w'.cell? ⟨w.heap.size, 3, none⟩ = some (.int .i64 r.Lost)) (simp [go_sem]) (first
      | (go_at_call 27; refine (toRing_l (x := r) h0 (Ty.up _ h1 (by repeat (first | with_reducible exact Gro.refl _ | with_reducible exact Gro.refl_drew _ _ _ | with_reducible exact Gro.refl_drewN _ _ _ _ | assumption | with_reducible apply Gro.more | with_reducible apply Gro.alloc | with_reducible apply Gro.drew | with_reducible apply Gro.drewN))) h2 h3 (by omega)).mono ?_; rintro e w1 ⟨A6, c6, rfl, hF6, os6, d6, rfl⟩)
      | (go_at_call 29; refine (eqRing_l (x := r) (y := r) (Ty.up _ (ring_rec hF3).read (by repeat (first | with_reducible exact Gro.refl _ | with_reducible exact Gro.refl_drew _ _ _ | with_reducible exact Gro.refl_drewN _ _ _ _ | assumption | with_reducible apply Gro.more | with_reducible apply Gro.alloc | with_reducible apply Gro.drew | with_reducible apply Gro.drewN))) (Ty.up _ (ring_rec hF6).read (by repeat (first | with_reducible exact Gro.refl _ | with_reducible exact Gro.refl_drew _ _ _ | with_reducible exact Gro.refl_drewN _ _ _ _ | assumption | with_reducible apply Gro.more | with_reducible apply Gro.alloc | with_reducible apply Gro.drew | with_reducible apply Gro.drewN)))).mono ?_; rintro e w1 ⟨rfl, os7, d7, rfl⟩))
    go_wp2_with (fail)
    obtain ⟨S3, hO3, hN3, hL3⟩ := hF3
    have hU3 := Ty.ltO _ hO3
    refine (markRing_l (x := r) (Ty.groO _ hO3 (by repeat (first | with_reducible exact Gro.refl _ | with_reducible exact Gro.refl_drew _ _ _ | with_reducible exact Gro.refl_drewN _ _ _ _ | assumption | with_reducible apply Gro.more | with_reducible apply Gro.alloc | with_reducible apply Gro.drew | with_reducible apply Gro.drewN))) hN3 (by omega) (by unfold cntRing; omega)).mono ?_
    rintro e w5 ⟨rfl, -, hS3⟩
    have hO2' := keepOnly _ hO2 hS3 (by repeat (first | with_reducible exact Gro.refl _ | with_reducible exact Gro.refl_drew _ _ _ | with_reducible exact Gro.refl_drewN _ _ _ _ | assumption | with_reducible apply Gro.more | with_reducible apply Gro.alloc | with_reducible apply Gro.drew | with_reducible apply Gro.drewN)) (fun k hk hm => by have a := hU2 k hk; have b := hL3 k hm; simp at a b; omega)
    have hP2' := keepOnly _ hP2 hS3 (by repeat (first | with_reducible exact Gro.refl _ | with_reducible exact Gro.refl_drew _ _ _ | with_reducible exact Gro.refl_drewN _ _ _ _ | assumption | with_reducible apply Gro.more | with_reducible apply Gro.alloc | with_reducible apply Gro.drew | with_reducible apply Gro.drewN)) (fun k hk hm => by have a := hV2 k hk; have b := hL3 k hm; simp at a b; omega)
    have hO4' := keepOnly _ hO4 hS3 (by repeat (first | with_reducible exact Gro.refl _ | with_reducible exact Gro.refl_drew _ _ _ | with_reducible exact Gro.refl_drewN _ _ _ _ | assumption | with_reducible apply Gro.more | with_reducible apply Gro.alloc | with_reducible apply Gro.drew | with_reducible apply Gro.drewN)) (fun k hk hm => by have a := hL4 k hk; have b := hU3 k hm; simp at a b; omega)
    have hP4' := keepOnly _ hP4 hS3 (by repeat (first | with_reducible exact Gro.refl _ | with_reducible exact Gro.refl_drew _ _ _ | with_reducible exact Gro.refl_drewN _ _ _ _ | assumption | with_reducible apply Gro.more | with_reducible apply Gro.alloc | with_reducible apply Gro.drew | with_reducible apply Gro.drewN)) (fun k hk hm => by have a := hK4 k hk; have b := hU3 k hm; simp at a b; omega)
    have hc0 : w5.cell? ⟨w.heap.size + 1 + os0.size + os1.size + os2.size + 1 + os3.size + 1 + os4.size, 0, none⟩ = some (.int .i64 p.1.Capacity) := (hS3.cell (by simp; omega) (fun hm => by have a := hU3 _ hm; simp at a <;> omega) 0).trans (by simp [go_sem])
    have hc1 : w5.cell? ⟨w.heap.size + 1 + os0.size + os1.size + os2.size + 1 + os3.size + 1 + os4.size, 1, none⟩ = some (.slice A4 p.1.Records.length c4) := (hS3.cell (by simp; omega) (fun hm => by have a := hU3 _ hm; simp at a <;> omega) 1).trans (by simp [go_sem])
    have hc2 : w5.cell? ⟨w.heap.size + 1 + os0.size + os1.size + os2.size + 1 + os3.size + 1 + os4.size, 2, none⟩ = some (.int .i64 p.1.Written) := (hS3.cell (by simp; omega) (fun hm => by have a := hU3 _ hm; simp at a <;> omega) 2).trans (by simp [go_sem])
    have hc3 : w5.cell? ⟨w.heap.size + 1 + os0.size + os1.size + os2.size + 1 + os3.size + 1 + os4.size, 3, none⟩ = some (.int .i64 p.1.Lost) := (hS3.cell (by simp; omega) (fun hm => by have a := hU3 _ hm; simp at a <;> omega) 3).trans (by simp [go_sem])
    have hcb : w.heap.size + 1 + os0.size + os1.size + os2.size + 1 + os3.size + 1 + os4.size < w5.heap.size := Nat.lt_of_lt_of_le (by simp; omega) hS3.size
    obtain ⟨os8, d8, rfl⟩ := hS3.gro (by repeat (first | with_reducible exact Gro.refl _ | with_reducible exact Gro.refl_drew _ _ _ | with_reducible exact Gro.refl_drewN _ _ _ _ | assumption | with_reducible apply Gro.more | with_reducible apply Gro.alloc | with_reducible apply Gro.drew | with_reducible apply Gro.drewN)) hL3
    clear hS3 hO2 hO4 hP2 hP4
    simp at hcb
    go_wp2_with (fail)
    refine (eqRing_l (x := p.1) (y := p.1) (Ty.up _ (ring_rec ⟨_, hO4', hN4, hL4⟩).read (by repeat (first | with_reducible exact Gro.refl _ | with_reducible exact Gro.refl_drew _ _ _ | with_reducible exact Gro.refl_drewN _ _ _ _ | assumption | with_reducible apply Gro.more | with_reducible apply Gro.alloc | with_reducible apply Gro.drew | with_reducible apply Gro.drewN))) (Ty.up _ (ring_rec ⟨_, hO2', hN2, hL2⟩).read (by repeat (first | with_reducible exact Gro.refl _ | with_reducible exact Gro.refl_drew _ _ _ | with_reducible exact Gro.refl_drewN _ _ _ _ | assumption | with_reducible apply Gro.more | with_reducible apply Gro.alloc | with_reducible apply Gro.drew | with_reducible apply Gro.drewN)))).mono ?_
    rintro e w1 ⟨rfl, os9, d9, rfl⟩
    go_wp2_with (fail)
    refine (eqStringS_l (xs := p.2) (ys := p.2) (Ty.up _ (Ty.read _ hP4') (by repeat (first | with_reducible exact Gro.refl _ | with_reducible exact Gro.refl_drew _ _ _ | with_reducible exact Gro.refl_drewN _ _ _ _ | assumption | with_reducible apply Gro.more | with_reducible apply Gro.alloc | with_reducible apply Gro.drew | with_reducible apply Gro.drewN))) (Ty.up _ (Ty.read _ hP2') (by repeat (first | with_reducible exact Gro.refl _ | with_reducible exact Gro.refl_drew _ _ _ | with_reducible exact Gro.refl_drewN _ _ _ _ | assumption | with_reducible apply Gro.more | with_reducible apply Gro.alloc | with_reducible apply Gro.drew | with_reducible apply Gro.drewN)))).mono ?_
    rintro e w1 ⟨rfl, os17, d17, rfl⟩
    go_wp2_with (fail)
    refine (markRing_l (x := p.1) (Ty.groO _ hO4' (by repeat (first | with_reducible exact Gro.refl _ | with_reducible exact Gro.refl_drew _ _ _ | with_reducible exact Gro.refl_drewN _ _ _ _ | assumption | with_reducible apply Gro.more | with_reducible apply Gro.alloc | with_reducible apply Gro.drew | with_reducible apply Gro.drewN))) hN4 (by omega) (by omega)).mono ?_
    rintro e w6 ⟨rfl, hM4, hS4⟩
    have hO2'' := keepOnly _ hO2' hS4 (by repeat (first | with_reducible exact Gro.refl _ | with_reducible exact Gro.refl_drew _ _ _ | with_reducible exact Gro.refl_drewN _ _ _ _ | assumption | with_reducible apply Gro.more | with_reducible apply Gro.alloc | with_reducible apply Gro.drew | with_reducible apply Gro.drewN)) (fun k hk hm => by have a := hU2 k hk; have b := hL4 k hm; simp at a b; omega)
    have hP2'' := keepOnly _ hP2' hS4 (by repeat (first | with_reducible exact Gro.refl _ | with_reducible exact Gro.refl_drew _ _ _ | with_reducible exact Gro.refl_drewN _ _ _ _ | assumption | with_reducible apply Gro.more | with_reducible apply Gro.alloc | with_reducible apply Gro.drew | with_reducible apply Gro.drewN)) (fun k hk hm => by have a := hV2 k hk; have b := hL4 k hm; simp at a b; omega)
    have hP4'' := keepOnly _ hP4' hS4 (by repeat (first | with_reducible exact Gro.refl _ | with_reducible exact Gro.refl_drew _ _ _ | with_reducible exact Gro.refl_drewN _ _ _ _ | assumption | with_reducible apply Gro.more | with_reducible apply Gro.alloc | with_reducible apply Gro.drew | with_reducible apply Gro.drewN)) (fun k hk hm => hD4 k hm hk)
    have hk0 : w6.cell? ⟨w.heap.size + 1 + os0.size + os1.size + os2.size + 1 + os3.size + 1 + os4.size, 0, none⟩ = some (.int .i64 p.1.Capacity) := (hS4.cell (by simp; omega) (fun hm => by have a := hU4 _ hm; simp at a <;> omega) 0).trans (by simp [go_sem, hc0, hcb])
    have hk1 : w6.cell? ⟨w.heap.size + 1 + os0.size + os1.size + os2.size + 1 + os3.size + 1 + os4.size, 1, none⟩ = some (.slice A4 p.1.Records.length c4) := (hS4.cell (by simp; omega) (fun hm => by have a := hU4 _ hm; simp at a <;> omega) 1).trans (by simp [go_sem, hc1, hcb])
    have hk2 : w6.cell? ⟨w.heap.size + 1 + os0.size + os1.size + os2.size + 1 + os3.size + 1 + os4.size, 2, none⟩ = some (.int .i64 p.1.Written) := (hS4.cell (by simp; omega) (fun hm => by have a := hU4 _ hm; simp at a <;> omega) 2).trans (by simp [go_sem, hc2, hcb])
    have hk3 : w6.cell? ⟨w.heap.size + 1 + os0.size + os1.size + os2.size + 1 + os3.size + 1 + os4.size, 3, none⟩ = some (.int .i64 p.1.Lost) := (hS4.cell (by simp; omega) (fun hm => by have a := hU4 _ hm; simp at a <;> omega) 3).trans (by simp [go_sem, hc3, hcb])
    have hkb : w.heap.size + 1 + os0.size + os1.size + os2.size + 1 + os3.size + 1 + os4.size < w6.heap.size := Nat.lt_of_lt_of_le (by simp; omega) hS4.size
    obtain ⟨os10, d10, rfl⟩ := hS4.gro (by repeat (first | with_reducible exact Gro.refl _ | with_reducible exact Gro.refl_drew _ _ _ | with_reducible exact Gro.refl_drewN _ _ _ _ | assumption | with_reducible apply Gro.more | with_reducible apply Gro.alloc | with_reducible apply Gro.drew | with_reducible apply Gro.drewN)) (above hL3 hL4 (by simp; omega))
    clear hS4 hc0 hc1 hc2 hc3 hO2' hO4' hP2' hP4'
    simp at hkb
    go_wp2_with (fail)
    refine (markStringS_l (xs := p.2) (Ty.groO _ hP4'' (by repeat (first | with_reducible exact Gro.refl _ | with_reducible exact Gro.refl_drew _ _ _ | with_reducible exact Gro.refl_drewN _ _ _ _ | assumption | with_reducible apply Gro.more | with_reducible apply Gro.alloc | with_reducible apply Gro.drew | with_reducible apply Gro.drewN))) hW4 (by omega) (by omega)).mono ?_
    rintro e w7 ⟨rfl, hQ4, hS5⟩
    have hO2 := keepOnly _ hO2'' hS5 (by repeat (first | with_reducible exact Gro.refl _ | with_reducible exact Gro.refl_drew _ _ _ | with_reducible exact Gro.refl_drewN _ _ _ _ | assumption | with_reducible apply Gro.more | with_reducible apply Gro.alloc | with_reducible apply Gro.drew | with_reducible apply Gro.drewN)) (fun k hk hm => by have a := hU2 k hk; have b := hK4 k hm; simp at a b; omega)
    have hP2 := keepOnly _ hP2'' hS5 (by repeat (first | with_reducible exact Gro.refl _ | with_reducible exact Gro.refl_drew _ _ _ | with_reducible exact Gro.refl_drewN _ _ _ _ | assumption | with_reducible apply Gro.more | with_reducible apply Gro.alloc | with_reducible apply Gro.drew | with_reducible apply Gro.drewN)) (fun k hk hm => by have a := hV2 k hk; have b := hK4 k hm; simp at a b; omega)
    have hR4 := keepOnly _ hM4 hS5 (by repeat (first | with_reducible exact Gro.refl _ | with_reducible exact Gro.refl_drew _ _ _ | with_reducible exact Gro.refl_drewN _ _ _ _ | assumption | with_reducible apply Gro.more | with_reducible apply Gro.alloc | with_reducible apply Gro.drew | with_reducible apply Gro.drewN)) (fun k hk hm => hD4 k hk hm)
    have hj0 : w7.cell? ⟨w.heap.size + 1 + os0.size + os1.size + os2.size + 1 + os3.size + 1 + os4.size, 0, none⟩ = some (.int .i64 p.1.Capacity) := (hS5.cell (by simp; omega) (fun hm => by have a := hV4 _ hm; simp at a <;> omega) 0).trans (by simp [go_sem, hk0])
    have hj1 : w7.cell? ⟨w.heap.size + 1 + os0.size + os1.size + os2.size + 1 + os3.size + 1 + os4.size, 1, none⟩ = some (.slice A4 p.1.Records.length c4) := (hS5.cell (by simp; omega) (fun hm => by have a := hV4 _ hm; simp at a <;> omega) 1).trans (by simp [go_sem, hk1])
    have hj2 : w7.cell? ⟨w.heap.size + 1 + os0.size + os1.size + os2.size + 1 + os3.size + 1 + os4.size, 2, none⟩ = some (.int .i64 p.1.Written) := (hS5.cell (by simp; omega) (fun hm => by have a := hV4 _ hm; simp at a <;> omega) 2).trans (by simp [go_sem, hk2])
    have hj3 : w7.cell? ⟨w.heap.size + 1 + os0.size + os1.size + os2.size + 1 + os3.size + 1 + os4.size, 3, none⟩ = some (.int .i64 p.1.Lost) := (hS5.cell (by simp; omega) (fun hm => by have a := hV4 _ hm; simp at a <;> omega) 3).trans (by simp [go_sem, hk3])
    have hjb : w.heap.size + 1 + os0.size + os1.size + os2.size + 1 + os3.size + 1 + os4.size < w7.heap.size := Nat.lt_of_lt_of_le (by simp; omega) hS5.size
    obtain ⟨os18, d18, rfl⟩ := hS5.gro (by repeat (first | with_reducible exact Gro.refl _ | with_reducible exact Gro.refl_drew _ _ _ | with_reducible exact Gro.refl_drewN _ _ _ _ | assumption | with_reducible apply Gro.more | with_reducible apply Gro.alloc | with_reducible apply Gro.drew | with_reducible apply Gro.drewN)) (above hL3 hK4 (by simp; omega))
    clear hS5 hk0 hk1 hk2 hk3 hO2'' hP2'' hP4'' hM4
    simp at hjb
    have hM := mk_rec hR4
    go_wp2_with (fail)
    refine (heldRing_l (x := p.1) (Ty.up _ (Ty.read _ hM) (by repeat (first | with_reducible exact Gro.refl _ | with_reducible exact Gro.refl_drew _ _ _ | with_reducible exact Gro.refl_drewN _ _ _ _ | assumption | with_reducible apply Gro.more | with_reducible apply Gro.alloc | with_reducible apply Gro.drew | with_reducible apply Gro.drewN))) (by omega) (by omega)).mono ?_
    rintro e w1 ⟨rfl, os11, d11, rfl⟩
    go_wp2_with (fail)
    refine (heldStringS_l (xs := p.2) (Nat.le_refl _) (Ty.up _ (Ty.read _ hQ4) (by repeat (first | with_reducible exact Gro.refl _ | with_reducible exact Gro.refl_drew _ _ _ | with_reducible exact Gro.refl_drewN _ _ _ _ | assumption | with_reducible apply Gro.more | with_reducible apply Gro.alloc | with_reducible apply Gro.drew | with_reducible apply Gro.drewN))) (by omega) (by omega)).mono ?_
    rintro e w1 ⟨rfl, os19, d19, rfl⟩
    go_wp2_with (fail)
    refine (toRing_l (x := r) h0 (Ty.up _ h1 (by repeat (first | with_reducible exact Gro.refl _ | with_reducible exact Gro.refl_drew _ _ _ | with_reducible exact Gro.refl_drewN _ _ _ _ | assumption | with_reducible apply Gro.more | with_reducible apply Gro.alloc | with_reducible apply Gro.drew | with_reducible apply Gro.drewN))) h2 h3 (by omega)).mono ?_
    rintro e w1 ⟨A12, c12, rfl, hF12, os12, d12, rfl⟩
    go_wp2_with (fail)
    refine (take_i (r := r) h0 (Ty.up _ (ring_rec hF12).read (by repeat (first | with_reducible exact Gro.refl _ | with_reducible exact Gro.refl_drew _ _ _ | with_reducible exact Gro.refl_drewN _ _ _ _ | assumption | with_reducible apply Gro.more | with_reducible apply Gro.alloc | with_reducible apply Gro.drew | with_reducible apply Gro.drewN))) h2 h3 (by omega) (by omega)).mono ?_
    rw [hp.out]
    rintro e w1 ⟨A13, c13, B13, e13, rfl, hF13, os13, d13, rfl⟩
    obtain ⟨S13, T13, hO13, hN13, hL13, hP13, -⟩ := fresh_split hF13
    go_wp2_with (fail)
    refine (eqRing_l (x := p.1) (y := p.1) (Ty.up _ (ring_rec ⟨_, hO13, hN13, hL13⟩).read (by repeat (first | with_reducible exact Gro.refl _ | with_reducible exact Gro.refl_drew _ _ _ | with_reducible exact Gro.refl_drewN _ _ _ _ | assumption | with_reducible apply Gro.more | with_reducible apply Gro.alloc | with_reducible apply Gro.drew | with_reducible apply Gro.drewN))) (Ty.up _ (ring_rec ⟨_, hO2, hN2, hL2⟩).read (by repeat (first | with_reducible exact Gro.refl _ | with_reducible exact Gro.refl_drew _ _ _ | with_reducible exact Gro.refl_drewN _ _ _ _ | assumption | with_reducible apply Gro.more | with_reducible apply Gro.alloc | with_reducible apply Gro.drew | with_reducible apply Gro.drewN)))).mono ?_
    rintro e w1 ⟨rfl, os14, d14, rfl⟩
    go_wp2_with (fail)
    refine (eqStringS_l (xs := p.2) (ys := p.2) (Ty.up _ (Ty.read _ hP13) (by repeat (first | with_reducible exact Gro.refl _ | with_reducible exact Gro.refl_drew _ _ _ | with_reducible exact Gro.refl_drewN _ _ _ _ | assumption | with_reducible apply Gro.more | with_reducible apply Gro.alloc | with_reducible apply Gro.drew | with_reducible apply Gro.drewN))) (Ty.up _ (Ty.read _ hP2) (by repeat (first | with_reducible exact Gro.refl _ | with_reducible exact Gro.refl_drew _ _ _ | with_reducible exact Gro.refl_drewN _ _ _ _ | assumption | with_reducible apply Gro.more | with_reducible apply Gro.alloc | with_reducible apply Gro.drew | with_reducible apply Gro.drewN)))).mono ?_
    rintro e w1 ⟨rfl, os20, d20, rfl⟩
    go_wp2_with (fail)
    refine (heldRing_l (x := p.1) (Ty.up _ (Ty.read _ hM) (by repeat (first | with_reducible exact Gro.refl _ | with_reducible exact Gro.refl_drew _ _ _ | with_reducible exact Gro.refl_drewN _ _ _ _ | assumption | with_reducible apply Gro.more | with_reducible apply Gro.alloc | with_reducible apply Gro.drew | with_reducible apply Gro.drewN))) (by omega) (by omega)).mono ?_
    rintro e w1 ⟨rfl, os15, d15, rfl⟩
    go_wp2_with (fail)
    refine (heldStringS_l (xs := p.2) (Nat.le_refl _) (Ty.up _ (Ty.read _ hQ4) (by repeat (first | with_reducible exact Gro.refl _ | with_reducible exact Gro.refl_drew _ _ _ | with_reducible exact Gro.refl_drewN _ _ _ _ | assumption | with_reducible apply Gro.more | with_reducible apply Gro.alloc | with_reducible apply Gro.drew | with_reducible apply Gro.drewN))) (by omega) (by omega)).mono ?_
    rintro e w1 ⟨rfl, os21, d21, rfl⟩
    go_wp2
    go_ret
    exact ⟨rfl, (by repeat (first | with_reducible exact Gro.refl _ | with_reducible exact Gro.refl_drew _ _ _ | with_reducible exact Gro.refl_drewN _ _ _ _ | assumption | with_reducible apply Gro.more | with_reducible apply Gro.alloc | with_reducible apply Gro.drew | with_reducible apply Gro.drewN))⟩
  · have e0 : szRes 1048576 (szRing r) = -1 := if_neg (by omega)
    go_enter Try.func13, Try.ntmps13
    go_wp2_with (fail)
    refine (szRing_l (x := r) (Ty.up _ h1 (by repeat (first | with_reducible exact Gro.refl _ | with_reducible exact Gro.refl_drew _ _ _ | with_reducible exact Gro.refl_drewN _ _ _ _ | assumption | with_reducible apply Gro.more | with_reducible apply Gro.alloc | with_reducible apply Gro.drew | with_reducible apply Gro.drewN))) (by omega) (by omega)).mono ?_
    rintro e w1 ⟨rfl, os0, d0, rfl⟩
    go_wp2
    go_ret
    exact ⟨rfl, (by repeat (first | with_reducible exact Gro.refl _ | with_reducible exact Gro.refl_drew _ _ _ | with_reducible exact Gro.refl_drewN _ _ _ _ | assumption | with_reducible apply Gro.more | with_reducible apply Gro.alloc | with_reducible apply Gro.drew | with_reducible apply Gro.drewN))⟩

set_option linter.unusedVariables false
set_option maxRecDepth 100000 in
theorem lifted (os : Os) (started : os.Started) (H : Type) (enc : TypeId × Value → H) :
    ReturnsInHanded {} Try.checked os 13 .any (Rows.fnExactTakeRecordsSpec.pre6 enc Try.prog Try.f13 Rows.fnExactTakeRecordsRow.domain false) (Rows.fnExactTakeRecordsSpec.post enc Try.prog Try.f13 false true false false) := by
  refine returnsInHanded_of_change (C := Try.checked) own started (by kernel_rfl) Try.func13
    (ChangeSpec.witness6 (enc := enc) (C := Try.checked) false ⟨#[], #[.agg #[.int .i64 0, .slice none 0 0, .int .i64 0, .int .i64 0], .int .i64 0], []⟩ 8 (by kernel_rfl) (by kernel_rfl) (by kernel_rfl) (by kernel_rfl)) ?_
  intro W base args ds gs before hval0 hW hcnd _
  have hval : ∀ (j : Nat) t v, Try.f13.params[j]? = some t → args[j]? = some v → Value.okWide Try.prog W .any base t v := hval0
  have hW' := hW
  obtain ⟨p, q, hA0, hV, rfl, hfz, hnd⟩ := hW
  have hA : DataW.TrodAll enc Try.prog W 0 (fun _ => true) true Try.f13.params.toList args.toList ds p := hA0
  rw [Try.params13] at hA hval
  obtain ⟨v0, vs0, d0, ds0, p0, q0, hargs, rfl, rfl, h0, r0⟩ := trodAll_cons hA
  obtain ⟨v1, vs1, d1, ds1, p1, q1, rfl, rfl, rfl, h1, r1⟩ := trodAll_cons r0
  obtain ⟨rfl, rfl, rfl⟩ := trodAll_nil r1
  obtain rfl : args = #[v0, v1] := by cases args; simp_all
  obtain ⟨rfl, rfl⟩ := trodVars_none hV
  have k0 := h0
  have lt0 : ∀ x ∈ p0, x.block < W.heap.size := by obtain ⟨m, hm⟩ := k0; exact DataW.trod_lt m _ _ _ hm
  obtain ⟨cs0, rfl⟩ := arg_agg Try.underlying37 (hval 0 37 v0 rfl rfl)
  obtain ⟨a0, w0⟩ := arg_open tRing_opens h0
  have k1 := h1
  have lt1 : ∀ x ∈ p1, x.block < W.heap.size := by obtain ⟨m, hm⟩ := k1; exact DataW.trod_lt m _ _ _ hm
  obtain ⟨a1, rfl, rfl, rfl, w1⟩ := open_int Try.underlying3 (hval 1 3 v1 rfl rfl) h1
  clear hA0 hval0
  refine (walk W cs0 a0 w0 a1 (wf_bounds w1).1 (wf_bounds w1).2).mono fun e W' ⟨he, hgro⟩ => ?_
  subst he
  have bel := hgro.below
  exact ⟨_, rfl, _, _, _, [], _, [], hW', trodAll_mk1 (shut_bool Try.underlying4 _), (trodAll_cons_mk (Below.trod laidOut (by kernel_rfl) (of_decide_eq_true (by kernel_rfl)) k0 bel lt0) (trodAll_cons_mk (Below.trod laidOut (by kernel_rfl) (of_decide_eq_true (by kernel_rfl)) k1 bel lt1) trodAll_mk0)), rfl, bel.frame _, fun h => by cases h⟩
theorem over : Rows.fnExactTakeRecordsRow.holds Try.pinned (OpenSpec.ofChange Rows.fnExactTakeRecordsSpec) :=
  OpenClaim.holds_of_wide 13 Try.f13 rfl rfl rfl rfl rfl rfl rfl ⟨rfl, rfl, rfl, rfl, rfl⟩ rfl rfl rfl rfl rfl (by kernel_rfl) Try.func13 (by kernel_rfl)
    (of_decide_eq_true (by kernel_rfl)) (by unfold Func.isWrapper; first | (rw [if_pos (by decide +kernel)]; kernel_rfl) | (rw [if_neg (by decide +kernel)]; exact ⟨rfl, rfl⟩))
    (fun os started H enc _ => lifted os started H enc)
/-- THE STATEMENT -/
theorem proved : Rows.FnExactTakeRecordsSaid := over
#print axioms proved
end Go.Proofs.Ytgenkhlekhilbaa.fnExactTakeRecords
