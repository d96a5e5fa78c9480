/-
  PROFILES: ProfileOk, TotalOf, CountOf of the program and of the reference: what they compute.
-/
import Derived.Test.YtcomafmiclkmhaaGreatDoorStacks2
import Derived.Deep.RegionHeld3
set_option linter.unusedVariables false
set_option linter.unusedSimpArgs false
namespace Go.Proofs.YtcomafmiclkmhaaGreatDoor
open Go.RowKit
def countsOk : Int → List Int → Bool
  | _, [] => true
  | left, n :: ns => btw n 0 left && countsOk (left - n) ns
def profileOk (p : DProfile) : Bool := stacksOk p.Stacks && (decide (p.Counts.length = p.Stacks.Nodes.length) && countsOk 1000000000000 p.Counts)
def totalOf (p : DProfile) : Int := if profileOk p then p.Counts.sum else 0
def countOf (p : DProfile) (l : List DFrame) : Int := if 0 ≤ findStack p.Stacks l ∧ profileOk p = true then (p.Counts[(findStack p.Stacks l).toNat]?).getD 0 else 0
theorem countsOk_take {L : Int} {ns : List Int} (h : countsOk L ns = true) (hL : 0 ≤ L) (j : Nat) : 0 ≤ (ns.take j).sum ∧ (ns.take j).sum ≤ L := by
  induction ns generalizing L j with
  | nil => simpa using hL
  | cons n ns ih =>
    simp only [countsOk, Bool.and_eq_true, btw_iff] at h
    cases j with
    | zero => simpa using hL
    | succ j =>
      have := ih h.2 (by omega) j
      simp only [List.take_succ_cons, List.sum_cons]
      omega
theorem sum_snoc {xs : List Int} {j : Nat} {x : Int} (h : xs[j]? = some x) : (xs.take (j + 1)).sum = (xs.take j).sum + x := by
  rw [take_snoc h]; simp
set_option maxRecDepth 100000 in
set_option maxHeartbeats 1000000 in
theorem profileOk_i {p : DProfile} {w : World} {A0 A1 : Option Addr} {c0 c1 : Nat} (hx : (tNode.sl 48).R w w.heap.size [.slice A0 p.Stacks.Nodes.length c0] p.Stacks.Nodes) (hy : (intT.sl 3).R w w.heap.size [.slice A1 p.Counts.length c1] p.Counts) :
    Calls Tryz.prog 14 #[.agg #[.slice A0 p.Stacks.Nodes.length c0, .slice A1 p.Counts.length c1]] w fun e w' => e = .returned (.bool (profileOk p)) ∧ Gro w w' := by
  obtain ⟨t, cs⟩ := p
  simp only at hx hy ⊢
  obtain ⟨_, _, hv, h2, h3⟩ := sl_at hx
  injection hv with hA _ hc
  subst hA hc
  obtain ⟨_, _, hv, k2, k3⟩ := sl_at hy
  injection hv with hA _ hc
  subst hA hc
  cases hok : stacksOk t
  · have HF := Lib.hid (show profileOk ⟨t, cs⟩ = false from by simp [profileOk, hok])
    have HO := Lib.hid hok
    clear hok
    go_enter Tryz.func14, Tryz.ntmps14
    go_wp2_with (go_at_call 32; (with_reducible refine (stacksOk_i (t := t) (Ty.up _ hx (by repeat (first | with_reducible exact Gro.refl _ | with_reducible exact Gro.refl_drew _ _ _ | with_reducible exact Gro.refl_drewN _ _ _ _ | assumption | with_reducible apply Gro.more | with_reducible apply Gro.alloc | with_reducible apply Gro.drew | with_reducible apply Gro.drewN)))).mono ?_); rw [HO.out]; rintro e w1 ⟨rfl, os1, d1, rfl⟩)
    go_ret
    exact ⟨ret_bool HF.out.symm, (by repeat (first | with_reducible exact Gro.refl _ | with_reducible exact Gro.refl_drew _ _ _ | with_reducible exact Gro.refl_drewN _ _ _ _ | assumption | with_reducible apply Gro.more | with_reducible apply Gro.alloc | with_reducible apply Gro.drew | with_reducible apply Gro.drewN))⟩
  · by_cases hl : cs.length = t.Nodes.length
    · have hlb : ((cs.length : Int) != (t.Nodes.length : Int)) = false := by simp [hl]
      have HF := Lib.hid (show profileOk ⟨t, cs⟩ = countsOk 1000000000000 cs from by simp [profileOk, hok, hl])
      have HO := Lib.hid hok
      clear hok hl
      go_enter Tryz.func14, Tryz.ntmps14
      go_wp2_with (go_at_call 32; (with_reducible refine (stacksOk_i (t := t) (Ty.up _ hx (by repeat (first | with_reducible exact Gro.refl _ | with_reducible exact Gro.refl_drew _ _ _ | with_reducible exact Gro.refl_drewN _ _ _ _ | assumption | with_reducible apply Gro.more | with_reducible apply Gro.alloc | with_reducible apply Gro.drew | with_reducible apply Gro.drewN)))).mono ?_); rw [HO.out]; rintro e w1 ⟨rfl, os1, d1, rfl⟩)
      go_loop [3, 23] (fun a i => ∃ (j : Nat) (L : Int), j ≤ cs.length ∧ i = .int .i64 j ∧ a = .int .i64 L ∧ 0 ≤ L ∧ L ≤ 1000000000000 ∧ Hid (countsOk L (cs.drop j) = countsOk 1000000000000 cs)) (fun _ i => cs.length - (intOf i).toNat)
      case atStart => exact ⟨0, 1000000000000, Nat.zero_le _, rfl, rfl, by omega, by omega, Lib.hid (by simp)⟩
      case round =>
        obtain ⟨j, L, hj, rfl, rfl, L1, L2, HT⟩ := hrel
        by_cases hlt : j < cs.length
        · obtain ⟨g, off, x, rfl, hxk, hcx, bx1, bx2⟩ := ints_at hy hlt
          have hgb := World.block_lt_of_cell? _ _ hcx
          simp only at hgb
          have HT2 := Lib.hid (show countsOk L (cs.drop j) = (btw x 0 L && countsOk (L - x) (cs.drop (j + 1))) from by rw [drop_at hxk]; rfl)
          clear hxk hy
          cases hb : btw x 0 L
          · have HB := Lib.hid hb
            have HQ := Lib.hid (show profileOk ⟨t, cs⟩ = false from by rw [HF.out, ← HT.out, HT2.out, hb]; rfl)
            clear hb
            go_wp2_with (go_at_call 33; (with_reducible refine (in_i _ _ _ _).mono ?_); rw [HB.out]; rintro e w1 ⟨rfl, rfl⟩)
            go_ret
            exact ⟨ret_bool HQ.out.symm, (by repeat (first | with_reducible exact Gro.refl _ | with_reducible exact Gro.refl_drew _ _ _ | with_reducible exact Gro.refl_drewN _ _ _ _ | assumption | with_reducible apply Gro.more | with_reducible apply Gro.alloc | with_reducible apply Gro.drew | with_reducible apply Gro.drewN))⟩
          · obtain ⟨b1, b2⟩ := btw_iff.1 hb
            have HB := Lib.hid hb
            clear hb
            go_wp2_with (go_at_call 33; (with_reducible refine (in_i _ _ _ _).mono ?_); rw [HB.out]; rintro e w1 ⟨rfl, rfl⟩)
            go_round
            case rel => exact ⟨j + 1, L - x, by omega, by go_num, rfl, by omega, by omega, Lib.hid (by rw [← HT.out, HT2.out, HB.out]; rfl)⟩
            case measure => simp [intOf]; omega
        · have hje : j = cs.length := by omega
          subst hje
          have HQ := Lib.hid (show profileOk ⟨t, cs⟩ = true from by rw [HF.out, ← HT.out, List.drop_length]; rfl)
          go_wp2
          go_ret
          exact ⟨ret_bool HQ.out.symm, (by repeat (first | with_reducible exact Gro.refl _ | with_reducible exact Gro.refl_drew _ _ _ | with_reducible exact Gro.refl_drewN _ _ _ _ | assumption | with_reducible apply Gro.more | with_reducible apply Gro.alloc | with_reducible apply Gro.drew | with_reducible apply Gro.drewN))⟩
    · have hlb : ((cs.length : Int) != (t.Nodes.length : Int)) = true := by simp; omega
      have HF := Lib.hid (show profileOk ⟨t, cs⟩ = false from by simp [profileOk, hl])
      have HO := Lib.hid hok
      clear hok hl
      go_enter Tryz.func14, Tryz.ntmps14
      go_wp2_with (go_at_call 32; (with_reducible refine (stacksOk_i (t := t) (Ty.up _ hx (by repeat (first | with_reducible exact Gro.refl _ | with_reducible exact Gro.refl_drew _ _ _ | with_reducible exact Gro.refl_drewN _ _ _ _ | assumption | with_reducible apply Gro.more | with_reducible apply Gro.alloc | with_reducible apply Gro.drew | with_reducible apply Gro.drewN)))).mono ?_); rw [HO.out]; rintro e w1 ⟨rfl, os1, d1, rfl⟩)
      go_ret
      exact ⟨ret_bool HF.out.symm, (by repeat (first | with_reducible exact Gro.refl _ | with_reducible exact Gro.refl_drew _ _ _ | with_reducible exact Gro.refl_drewN _ _ _ _ | assumption | with_reducible apply Gro.more | with_reducible apply Gro.alloc | with_reducible apply Gro.drew | with_reducible apply Gro.drewN))⟩
set_option maxRecDepth 100000 in
set_option maxHeartbeats 1000000 in
theorem profileOk_s {p : DProfile} {w : World} {A0 A1 : Option Addr} {c0 c1 : Nat} (hx : (tNode.sl 48).R w w.heap.size [.slice A0 p.Stacks.Nodes.length c0] p.Stacks.Nodes) (hy : (intT.sl 3).R w w.heap.size [.slice A1 p.Counts.length c1] p.Counts) :
    Calls Tryz.prog 25 #[.agg #[.slice A0 p.Stacks.Nodes.length c0, .slice A1 p.Counts.length c1]] w fun e w' => e = .returned (.bool (profileOk p)) ∧ Gro w w' := by
  obtain ⟨t, cs⟩ := p
  simp only at hx hy ⊢
  obtain ⟨_, _, hv, h2, h3⟩ := sl_at hx
  injection hv with hA _ hc
  subst hA hc
  obtain ⟨_, _, hv, k2, k3⟩ := sl_at hy
  injection hv with hA _ hc
  subst hA hc
  cases hok : stacksOk t
  · have HF := Lib.hid (show profileOk ⟨t, cs⟩ = false from by simp [profileOk, hok])
    have HO := Lib.hid hok
    clear hok
    go_enter Tryz.func25, Tryz.ntmps25
    go_wp2_with (go_at_call 46; (with_reducible refine (stacksOk_s (t := t) (Ty.up _ hx (by repeat (first | with_reducible exact Gro.refl _ | with_reducible exact Gro.refl_drew _ _ _ | with_reducible exact Gro.refl_drewN _ _ _ _ | assumption | with_reducible apply Gro.more | with_reducible apply Gro.alloc | with_reducible apply Gro.drew | with_reducible apply Gro.drewN)))).mono ?_); rw [HO.out]; rintro e w1 ⟨rfl, os1, d1, rfl⟩)
    go_ret
    exact ⟨ret_bool HF.out.symm, (by repeat (first | with_reducible exact Gro.refl _ | with_reducible exact Gro.refl_drew _ _ _ | with_reducible exact Gro.refl_drewN _ _ _ _ | assumption | with_reducible apply Gro.more | with_reducible apply Gro.alloc | with_reducible apply Gro.drew | with_reducible apply Gro.drewN))⟩
  · by_cases hl : cs.length = t.Nodes.length
    · have hlb : ((cs.length : Int) != (t.Nodes.length : Int)) = false := by simp [hl]
      have HF := Lib.hid (show profileOk ⟨t, cs⟩ = countsOk 1000000000000 cs from by simp [profileOk, hok, hl])
      have HO := Lib.hid hok
      clear hok hl
      go_enter Tryz.func25, Tryz.ntmps25
      go_wp2_with (go_at_call 46; (with_reducible refine (stacksOk_s (t := t) (Ty.up _ hx (by repeat (first | with_reducible exact Gro.refl _ | with_reducible exact Gro.refl_drew _ _ _ | with_reducible exact Gro.refl_drewN _ _ _ _ | assumption | with_reducible apply Gro.more | with_reducible apply Gro.alloc | with_reducible apply Gro.drew | with_reducible apply Gro.drewN)))).mono ?_); rw [HO.out]; rintro e w1 ⟨rfl, os1, d1, rfl⟩)
      go_loop [3, 4] (fun a i => ∃ (j : Nat) (L : Int), j ≤ cs.length ∧ i = .int .i64 j ∧ a = .int .i64 L ∧ 0 ≤ L ∧ L ≤ 1000000000000 ∧ Hid (countsOk (1000000000000 - L) (cs.drop j) = countsOk 1000000000000 cs)) (fun _ i => cs.length - (intOf i).toNat)
      case atStart => exact ⟨0, 0, Nat.zero_le _, rfl, rfl, by omega, by omega, Lib.hid (by simp)⟩
      case round =>
        obtain ⟨j, L, hj, rfl, rfl, L1, L2, HT⟩ := hrel
        by_cases hlt : j < cs.length
        · obtain ⟨g, off, x, rfl, hxk, hcx, bx1, bx2⟩ := ints_at hy hlt
          have hgb := World.block_lt_of_cell? _ _ hcx
          simp only at hgb
          have HT2 := Lib.hid (show countsOk (1000000000000 - L) (cs.drop j) = (btw x 0 (1000000000000 - L) && countsOk (1000000000000 - L - x) (cs.drop (j + 1))) from by rw [drop_at hxk]; rfl)
          clear hxk hy
          cases hb : btw x 0 (1000000000000 - L)
          · have HB := Lib.hid hb
            have HQ := Lib.hid (show profileOk ⟨t, cs⟩ = false from by rw [HF.out, ← HT.out, HT2.out, hb]; rfl)
            clear hb
            go_wp2_with (go_at_call 47; (with_reducible refine (in_s _ _ _ _).mono ?_); rw [HB.out]; rintro e w1 ⟨rfl, rfl⟩)
            go_ret
            exact ⟨ret_bool HQ.out.symm, (by repeat (first | with_reducible exact Gro.refl _ | with_reducible exact Gro.refl_drew _ _ _ | with_reducible exact Gro.refl_drewN _ _ _ _ | assumption | with_reducible apply Gro.more | with_reducible apply Gro.alloc | with_reducible apply Gro.drew | with_reducible apply Gro.drewN))⟩
          · obtain ⟨b1, b2⟩ := btw_iff.1 hb
            have HB := Lib.hid hb
            clear hb
            go_wp2_with (go_at_call 47; (with_reducible refine (in_s _ _ _ _).mono ?_); rw [HB.out]; rintro e w1 ⟨rfl, rfl⟩)
            go_round
            case rel => exact ⟨j + 1, L + x, by omega, by go_num, rfl, by omega, by omega, Lib.hid (by rw [← HT.out, HT2.out, HB.out]; rw [show (1000000000000 : Int) - (L + x) = 1000000000000 - L - x from by omega]; rfl)⟩
            case measure => simp [intOf]; omega
        · have hje : j = cs.length := by omega
          subst hje
          have HQ := Lib.hid (show profileOk ⟨t, cs⟩ = true from by rw [HF.out, ← HT.out, List.drop_length]; rfl)
          go_wp2
          go_ret
          exact ⟨ret_bool HQ.out.symm, (by repeat (first | with_reducible exact Gro.refl _ | with_reducible exact Gro.refl_drew _ _ _ | with_reducible exact Gro.refl_drewN _ _ _ _ | assumption | with_reducible apply Gro.more | with_reducible apply Gro.alloc | with_reducible apply Gro.drew | with_reducible apply Gro.drewN))⟩
    · have hlb : ((cs.length : Int) != (t.Nodes.length : Int)) = true := by simp; omega
      have HF := Lib.hid (show profileOk ⟨t, cs⟩ = false from by simp [profileOk, hl])
      have HO := Lib.hid hok
      clear hok hl
      go_enter Tryz.func25, Tryz.ntmps25
      go_wp2_with (go_at_call 46; (with_reducible refine (stacksOk_s (t := t) (Ty.up _ hx (by repeat (first | with_reducible exact Gro.refl _ | with_reducible exact Gro.refl_drew _ _ _ | with_reducible exact Gro.refl_drewN _ _ _ _ | assumption | with_reducible apply Gro.more | with_reducible apply Gro.alloc | with_reducible apply Gro.drew | with_reducible apply Gro.drewN)))).mono ?_); rw [HO.out]; rintro e w1 ⟨rfl, os1, d1, rfl⟩)
      go_ret
      exact ⟨ret_bool HF.out.symm, (by repeat (first | with_reducible exact Gro.refl _ | with_reducible exact Gro.refl_drew _ _ _ | with_reducible exact Gro.refl_drewN _ _ _ _ | assumption | with_reducible apply Gro.more | with_reducible apply Gro.alloc | with_reducible apply Gro.drew | with_reducible apply Gro.drewN))⟩
end Go.Proofs.YtcomafmiclkmhaaGreatDoor
