/-
  MERGEALL: MergeAll of the program and of the reference.
-/
import Derived.Test.YtfpacmfhpkcipaaGreatDoorMerge2
import Derived.Test.YtfpacmfhpkcipaaGreatDoorMergeAllLaw
import Derived.Test.YtfpacmfhpkcipaaGreatDoorLsProfile
import Derived.Test.YtfpacmfhpkcipaaGreatDoorBoxes
import Derived.BigQuiet
import Derived.Deep.RegionHeld3
set_option linter.unusedVariables false
set_option linter.unusedSimpArgs false
namespace Go.Proofs.YtfpacmfhpkcipaaGreatDoor
open Go.RowKit
set_option maxRecDepth 100000 in
set_option maxHeartbeats 8000000 in
theorem mergeAll_i {l : List DProfile} {m : Int} {w : World} {A : Option Addr} {c : Nat} (hx : (tProfile.sl 33).R w w.heap.size [.slice A l.length c] l) (hsz : (l.map szProfile).sum ≤ 1048576) (hlen : w.cell? ⟨0, 0, none⟩ = some (.int .i64 m)) :
    Calls Tryz.prog 25 #[.slice A l.length c] w (RetProfileBool (mergeAllP l) w) := by
  have HM := Lib.hid hlen
  clear hlen
  obtain ⟨_, _, hv, hxl, hcm⟩ := sl_at hx
  injection hv with hA _ hc
  subst hA hc
  obtain ⟨N, hN⟩ : ∃ N, (l.map szProfile).sum = N := ⟨_, rfl⟩
  rw [hN] at hsz
  have HN := Lib.hid hN
  clear hN
  go_enter Tryz.func25, Tryz.ntmps25
  go_wp2_with (fail)
  go_loopw [12] (fun b wr => ∃ (j r : Nat) (p : DProfile) (A0 : Option Addr) (c0 : Nat) (A1 : Option Addr) (c1 : Nat), b = .int .i64 j ∧ j ≤ l.length ∧ 3 * p.Stacks.Nodes.length + r ≤ N ∧ Hid (((l.drop j).map szProfile).sum = r) ∧ Hid (profileOk p = true) ∧ Hid (mergeAllL (l.drop j) p = mergeAllL l emptyP) ∧ Hid (Gro w wr) ∧ w.heap.size + 2 ≤ wr.heap.size ∧ Hid (wr.heap[w.heap.size]? = some (.cells #[.slice none 0 0, .slice none 0 0] 33 (0, 0))) ∧ Hid (wr.heap[w.heap.size + 1]? = some (.cells #[.slice A0 p.Stacks.Nodes.length c0, .slice A1 p.Counts.length c1] 33 (0, 0))) ∧ Hid (FrN tProfile (w.heap.size + 2) wr.heap.size wr [.slice A0 p.Stacks.Nodes.length c0, .slice A1 p.Counts.length c1] p)) (fun b _ => l.length - (intOf b).toNat)
  case atStart =>
    have e2 : ((w.alloc (.cells #[.slice none 0 0, .slice none 0 0] 33)).alloc (.cells #[.slice none 0 0, .slice none 0 0] 33)).heap[w.heap.size]? = some (.cells #[.slice none 0 0, .slice none 0 0] 33 (0, 0)) := (((Gro.refl _).alloc _).block (by simp)).trans (heap_alloc_new w _)
    have e3 : ((w.alloc (.cells #[.slice none 0 0, .slice none 0 0] 33)).alloc (.cells #[.slice none 0 0, .slice none 0 0] 33)).heap[w.heap.size + 1]? = some (.cells #[.slice none 0 0, .slice none 0 0] 33 (0, 0)) := by have := heap_alloc_new (w.alloc (.cells #[.slice none 0 0, .slice none 0 0] 33)) (.cells #[.slice none 0 0, .slice none 0 0] 33); simpa using this
    refine ⟨0, N, emptyP, none, 0, none, 0, rfl, Nat.zero_le _, by show 3 * 0 + N ≤ N; omega, Lib.hid (by simpa using HN.out), Lib.hid emptyP_ok, Lib.hid rfl, Lib.hid (by repeat (first | with_reducible exact Gro.refl _ | with_reducible exact Gro.refl_drew _ _ _ | with_reducible exact Gro.refl_drewN _ _ _ _ | assumption | with_reducible apply Gro.more | with_reducible apply Gro.alloc | with_reducible apply Gro.drew | with_reducible apply Gro.drewN)), by simp, Lib.hid e2, Lib.hid e3, Lib.hid ?_⟩
    have h0 := fresh_emptyP ((w.alloc (.cells #[.slice none 0 0, .slice none 0 0] 33)).alloc (.cells #[.slice none 0 0, .slice none 0 0] 33)) ((w.alloc (.cells #[.slice none 0 0, .slice none 0 0] 33)).alloc (.cells #[.slice none 0 0, .slice none 0 0] 33))
    exact h0.frN.wide (by simp) (by simp)
  case round =>
    obtain ⟨j, r, p, A0, c0, A1, c1, rfl, hj, hb, hr, hpok, HT, hG, hz, hb2, hb3, hF⟩ := hrel
    obtain ⟨q0, q1, qf0, qf1, ql⟩ := box2 hb3.out
    obtain ⟨y0, y1, yf0, yf1, yl⟩ := box2 hb2.out
    by_cases hlt : j < l.length
    · obtain ⟨g, off, x, A5, c5, A6, c6, rfl, hgb, hxk, hx0, hx1, bx0, bx1⟩ := atProfile hx hlt
      have HD := Lib.hid (drop_at hxk)
      have hr2 : szProfile x + ((l.drop (j + 1)).map szProfile).sum = r := by rw [← hr.out, HD.out]; simp
      obtain ⟨r2, hr3⟩ : ∃ r2, ((l.drop (j + 1)).map szProfile).sum = r2 := ⟨_, rfl⟩
      rw [hr3] at hr2
      have HR3 := Lib.hid hr3
      obtain ⟨hm1, hm2, hm3⟩ := mrg_bd (p := p) (x := x) hpok.out (by omega)
      have hcx0 := cell_up hG.out hx0
      have hcx1 := cell_up hG.out hx1
      have hgz : g < wr.heap.size := by omega
      have hr4 : szProfile x + r2 ≤ r := Nat.le_of_eq hr2
      obtain ⟨q, ok, hq⟩ : ∃ q ok, mergeP p x = (q, ok) := ⟨_, _, rfl⟩
      have HR := Lib.hid hq
      clear hr2 hr3 hxk hx0 hx1 hx
      cases ok with
      | false =>
        have HB := Lib.hid (mergeAllP_bad (l := l) (by rw [← HT.out, HD.out, mergeAllL_no hq]))
        clear hq
        go_wp2_with (fail)
        refine (merge_i (p := p) (q := x) (Ty.up _ (rdProf hF.out.read).1 (by repeat (first | with_reducible exact Gro.refl _ | with_reducible exact Gro.refl_drew _ _ _ | with_reducible exact Gro.refl_drewN _ _ _ _ | assumption | with_reducible apply Gro.more | with_reducible apply Gro.alloc | with_reducible apply Gro.drew | with_reducible apply Gro.drewN))) (Ty.up _ (rdProf hF.out.read).2 (by repeat (first | with_reducible exact Gro.refl _ | with_reducible exact Gro.refl_drew _ _ _ | with_reducible exact Gro.refl_drewN _ _ _ _ | assumption | with_reducible apply Gro.more | with_reducible apply Gro.alloc | with_reducible apply Gro.drew | with_reducible apply Gro.drewN))) (by omega) (Ty.up _ bx0 (hG.out.trans (by repeat (first | with_reducible exact Gro.refl _ | with_reducible exact Gro.refl_drew _ _ _ | with_reducible exact Gro.refl_drewN _ _ _ _ | assumption | with_reducible apply Gro.more | with_reducible apply Gro.alloc | with_reducible apply Gro.drew | with_reducible apply Gro.drewN)))) (Ty.up _ bx1 (hG.out.trans (by repeat (first | with_reducible exact Gro.refl _ | with_reducible exact Gro.refl_drew _ _ _ | with_reducible exact Gro.refl_drewN _ _ _ _ | assumption | with_reducible apply Gro.more | with_reducible apply Gro.alloc | with_reducible apply Gro.drew | with_reducible apply Gro.drewN)))) (by omega) (by omega) (Gro.cell (hG.out.trans (by repeat (first | with_reducible exact Gro.refl _ | with_reducible exact Gro.refl_drew _ _ _ | with_reducible exact Gro.refl_drewN _ _ _ _ | assumption | with_reducible apply Gro.more | with_reducible apply Gro.alloc | with_reducible apply Gro.drew | with_reducible apply Gro.drewN))) HM.out)).mono ?_
        rw [HR.out]
        rintro e W7 ⟨A7, c7, A8, c8, rfl, hF7, os7, d7, rfl⟩
        go_wp2_with (fail)
        all_goals
          have h2 := set2 hb2.out (.slice none 0 0) (.slice none 0 0)
          first
            | (have hy := box2 (grow_blk h2.1 (show Gro _ ((gro (((wr.setCell ⟨w.heap.size, 0, none⟩ (.slice none 0 0)).setCell ⟨w.heap.size, 1, none⟩ (.slice none 0 0)).alloc (.cells #[.slice A5 x.Stacks.Nodes.length c5, .slice A6 x.Counts.length c6] 33)) os7 d7).alloc (.cells #[.slice A7 q.Stacks.Nodes.length c7, .slice A8 q.Counts.length c8] 33)) from (by repeat (first | with_reducible exact Gro.refl _ | with_reducible exact Gro.refl_drew _ _ _ | with_reducible exact Gro.refl_drewN _ _ _ _ | assumption | with_reducible apply Gro.more | with_reducible apply Gro.alloc | with_reducible apply Gro.drew | with_reducible apply Gro.drewN))))
               exact bodyPost_ret (v := .tuple #[.agg #[.slice none 0 0, .slice none 0 0], .bool false]) (by simp [results, Tryz.results25, go_sem, hy]) rfl (ret_profile_bool HB.out (fresh_emptyP _ _) (Gro.trans (h2.2.gro hG.out (fun b hb => by simp at hb; omega)) (by repeat (first | with_reducible exact Gro.refl _ | with_reducible exact Gro.refl_drew _ _ _ | with_reducible exact Gro.refl_drewN _ _ _ _ | assumption | with_reducible apply Gro.more | with_reducible apply Gro.alloc | with_reducible apply Gro.drew | with_reducible apply Gro.drewN)))))
      | true =>
        have hmk := mrg_ok hq
        have HMK := Lib.hid hmk.1
        have hmn := hmk.2
        have HL := Lib.hid (show mergeAllL (l.drop (j + 1)) q = mergeAllL l emptyP from by rw [← HT.out, HD.out, mergeAllL_yes hq])
        clear hq hmk
        go_wp2_with (fail)
        refine (merge_i (p := p) (q := x) (Ty.up _ (rdProf hF.out.read).1 (by repeat (first | with_reducible exact Gro.refl _ | with_reducible exact Gro.refl_drew _ _ _ | with_reducible exact Gro.refl_drewN _ _ _ _ | assumption | with_reducible apply Gro.more | with_reducible apply Gro.alloc | with_reducible apply Gro.drew | with_reducible apply Gro.drewN))) (Ty.up _ (rdProf hF.out.read).2 (by repeat (first | with_reducible exact Gro.refl _ | with_reducible exact Gro.refl_drew _ _ _ | with_reducible exact Gro.refl_drewN _ _ _ _ | assumption | with_reducible apply Gro.more | with_reducible apply Gro.alloc | with_reducible apply Gro.drew | with_reducible apply Gro.drewN))) (by omega) (Ty.up _ bx0 (hG.out.trans (by repeat (first | with_reducible exact Gro.refl _ | with_reducible exact Gro.refl_drew _ _ _ | with_reducible exact Gro.refl_drewN _ _ _ _ | assumption | with_reducible apply Gro.more | with_reducible apply Gro.alloc | with_reducible apply Gro.drew | with_reducible apply Gro.drewN)))) (Ty.up _ bx1 (hG.out.trans (by repeat (first | with_reducible exact Gro.refl _ | with_reducible exact Gro.refl_drew _ _ _ | with_reducible exact Gro.refl_drewN _ _ _ _ | assumption | with_reducible apply Gro.more | with_reducible apply Gro.alloc | with_reducible apply Gro.drew | with_reducible apply Gro.drewN)))) (by omega) (by omega) (Gro.cell (hG.out.trans (by repeat (first | with_reducible exact Gro.refl _ | with_reducible exact Gro.refl_drew _ _ _ | with_reducible exact Gro.refl_drewN _ _ _ _ | assumption | with_reducible apply Gro.more | with_reducible apply Gro.alloc | with_reducible apply Gro.drew | with_reducible apply Gro.drewN))) HM.out)).mono ?_
        rw [HR.out]
        rintro e W7 ⟨A7, c7, A8, c8, rfl, hF7, os7, d7, rfl⟩
        go_wp2_with (fail)
        all_goals go_roundw
        all_goals try (case measure => simp [intOf]; omega)
        all_goals
          have h2 := set2 hb3.out (.slice A7 q.Stacks.Nodes.length c7) (.slice A8 q.Counts.length c8)
          have hz2 := h2.2.size
          refine ⟨j + 1, r2, q, A7, c7, A8, c8, by go_num, by omega, by omega, HR3, HMK, HL, Lib.hid (Gro.trans (h2.2.gro hG.out (fun b hb => by simp at hb; omega)) (by repeat (first | with_reducible exact Gro.refl _ | with_reducible exact Gro.refl_drew _ _ _ | with_reducible exact Gro.refl_drewN _ _ _ _ | assumption | with_reducible apply Gro.more | with_reducible apply Gro.alloc | with_reducible apply Gro.drew | with_reducible apply Gro.drewN))), by simp; omega, Lib.hid (grow_blk ((h2.2.block w.heap.size (by omega) (by simp)).trans hb2.out) (by repeat (first | with_reducible exact Gro.refl _ | with_reducible exact Gro.refl_drew _ _ _ | with_reducible exact Gro.refl_drewN _ _ _ _ | assumption | with_reducible apply Gro.more | with_reducible apply Gro.alloc | with_reducible apply Gro.drew | with_reducible apply Gro.drewN))), Lib.hid (grow_blk h2.1 (by repeat (first | with_reducible exact Gro.refl _ | with_reducible exact Gro.refl_drew _ _ _ | with_reducible exact Gro.refl_drewN _ _ _ _ | assumption | with_reducible apply Gro.more | with_reducible apply Gro.alloc | with_reducible apply Gro.drew | with_reducible apply Gro.drewN))), Lib.hid ?_⟩
          first
            | exact ((FrN.same (w2 := gro (((wr.setCell ⟨w.heap.size + 1, 0, none⟩ (.slice A7 q.Stacks.Nodes.length c7)).setCell ⟨w.heap.size + 1, 1, none⟩ (.slice A8 q.Counts.length c8)).alloc (.cells #[.slice A5 x.Stacks.Nodes.length c5, .slice A6 x.Counts.length c6] 33)) os7 d7) hF7.frN (Same.base (by simp) (Nat.le_refl _))).gro (by (repeat (first | with_reducible exact Gro.refl _ | with_reducible exact Gro.refl_drew _ _ _ | with_reducible exact Gro.refl_drewN _ _ _ _ | assumption | with_reducible apply Gro.more | with_reducible apply Gro.alloc | with_reducible apply Gro.drew | with_reducible apply Gro.drewN)); done)).wide (by first | omega | (simp; omega)) (by simp)
    · obtain rfl : j = l.length := by omega
      have HE := Lib.hid (mergeAllP_yes (l := l) (p := p) (by rw [← HT.out, List.drop_length]; rfl))
      have h2 := set2 hb2.out (.slice A0 p.Stacks.Nodes.length c0) (.slice A1 p.Counts.length c1)
      have ha := box2 h2.1
      go_wp2_with (fail)
      refine bodyPost_ret (v := .tuple #[.agg #[.slice A0 p.Stacks.Nodes.length c0, .slice A1 p.Counts.length c1], .bool true]) (by simp [results, Tryz.results25, go_sem, ha]) rfl (ret_profile_bool HE.out (((hF.out.only h2.2 (by omega)).fresh (by omega))) (h2.2.gro hG.out (fun b hb => by simp at hb; omega)))
set_option maxRecDepth 100000 in
set_option maxHeartbeats 8000000 in
theorem mergeAll_s {l : List DProfile} {w : World} {A : Option Addr} {c : Nat} (hx : (tProfile.sl 33).R w w.heap.size [.slice A l.length c] l) (hsz : (l.map szProfile).sum ≤ 1048576) :
    Calls Tryz.prog 23 #[.slice A l.length c] w (RetProfileBool (mergeAllP l) w) := by
  obtain ⟨_, _, hv, hxl, hcm⟩ := sl_at hx
  injection hv with hA _ hc
  subst hA hc
  obtain ⟨N, hN⟩ : ∃ N, (l.map szProfile).sum = N := ⟨_, rfl⟩
  rw [hN] at hsz
  have HN := Lib.hid hN
  clear hN
  go_enter Tryz.func23, Tryz.ntmps23
  go_wp2_with (fail)
  go_loopw [5] (fun b wr => ∃ (j r : Nat) (p : DProfile) (A0 : Option Addr) (c0 : Nat) (A1 : Option Addr) (c1 : Nat), b = .int .i64 j ∧ j ≤ l.length ∧ 3 * p.Stacks.Nodes.length + r ≤ N ∧ Hid (((l.drop j).map szProfile).sum = r) ∧ Hid (profileOk p = true) ∧ Hid (mergeAllL (l.drop j) p = mergeAllL l emptyP) ∧ Hid (Gro w wr) ∧ w.heap.size + 2 ≤ wr.heap.size ∧ Hid (wr.heap[w.heap.size]? = some (.cells #[.slice none 0 0, .slice none 0 0] 33 (0, 0))) ∧ Hid (wr.heap[w.heap.size + 1]? = some (.cells #[.slice A0 p.Stacks.Nodes.length c0, .slice A1 p.Counts.length c1] 33 (0, 0))) ∧ Hid (FrN tProfile (w.heap.size + 2) wr.heap.size wr [.slice A0 p.Stacks.Nodes.length c0, .slice A1 p.Counts.length c1] p)) (fun b _ => l.length - (intOf b).toNat)
  case atStart =>
    have e2 : ((w.alloc (.cells #[.slice none 0 0, .slice none 0 0] 33)).alloc (.cells #[.slice none 0 0, .slice none 0 0] 33)).heap[w.heap.size]? = some (.cells #[.slice none 0 0, .slice none 0 0] 33 (0, 0)) := (((Gro.refl _).alloc _).block (by simp)).trans (heap_alloc_new w _)
    have e3 : ((w.alloc (.cells #[.slice none 0 0, .slice none 0 0] 33)).alloc (.cells #[.slice none 0 0, .slice none 0 0] 33)).heap[w.heap.size + 1]? = some (.cells #[.slice none 0 0, .slice none 0 0] 33 (0, 0)) := by have := heap_alloc_new (w.alloc (.cells #[.slice none 0 0, .slice none 0 0] 33)) (.cells #[.slice none 0 0, .slice none 0 0] 33); simpa using this
    refine ⟨0, N, emptyP, none, 0, none, 0, rfl, Nat.zero_le _, by show 3 * 0 + N ≤ N; omega, Lib.hid (by simpa using HN.out), Lib.hid emptyP_ok, Lib.hid rfl, Lib.hid (by repeat (first | with_reducible exact Gro.refl _ | with_reducible exact Gro.refl_drew _ _ _ | with_reducible exact Gro.refl_drewN _ _ _ _ | assumption | with_reducible apply Gro.more | with_reducible apply Gro.alloc | with_reducible apply Gro.drew | with_reducible apply Gro.drewN)), by simp, Lib.hid e2, Lib.hid e3, Lib.hid ?_⟩
    have h0 := fresh_emptyP ((w.alloc (.cells #[.slice none 0 0, .slice none 0 0] 33)).alloc (.cells #[.slice none 0 0, .slice none 0 0] 33)) ((w.alloc (.cells #[.slice none 0 0, .slice none 0 0] 33)).alloc (.cells #[.slice none 0 0, .slice none 0 0] 33))
    exact h0.frN.wide (by simp) (by simp)
  case round =>
    obtain ⟨j, r, p, A0, c0, A1, c1, rfl, hj, hb, hr, hpok, HT, hG, hz, hb2, hb3, hF⟩ := hrel
    obtain ⟨q0, q1, qf0, qf1, ql⟩ := box2 hb3.out
    obtain ⟨y0, y1, yf0, yf1, yl⟩ := box2 hb2.out
    by_cases hlt : j < l.length
    · obtain ⟨g, off, x, A5, c5, A6, c6, rfl, hgb, hxk, hx0, hx1, bx0, bx1⟩ := atProfile hx hlt
      have HD := Lib.hid (drop_at hxk)
      have hr2 : szProfile x + ((l.drop (j + 1)).map szProfile).sum = r := by rw [← hr.out, HD.out]; simp
      obtain ⟨r2, hr3⟩ : ∃ r2, ((l.drop (j + 1)).map szProfile).sum = r2 := ⟨_, rfl⟩
      rw [hr3] at hr2
      have HR3 := Lib.hid hr3
      obtain ⟨hm1, hm2, hm3⟩ := mrg_bd (p := p) (x := x) hpok.out (by omega)
      have hcx0 := cell_up hG.out hx0
      have hcx1 := cell_up hG.out hx1
      have hgz : g < wr.heap.size := by omega
      have hr4 : szProfile x + r2 ≤ r := Nat.le_of_eq hr2
      obtain ⟨q, ok, hq⟩ : ∃ q ok, mergeP p x = (q, ok) := ⟨_, _, rfl⟩
      have HR := Lib.hid hq
      clear hr2 hr3 hxk hx0 hx1 hx
      cases ok with
      | false =>
        have HB := Lib.hid (mergeAllP_bad (l := l) (by rw [← HT.out, HD.out, mergeAllL_no hq]))
        clear hq
        go_wp2_with (fail)
        go_region_held3 (fun w' => w'.cell? ⟨w.heap.size + 1, 0, none⟩ = some (.slice A0 p.Stacks.Nodes.length c0) ∧ w'.cell? ⟨w.heap.size + 1, 1, none⟩ = some (.slice A1 p.Counts.length c1) ∧ w'.cell? ⟨g, off + j * 2, none⟩ = some (.slice A5 x.Stacks.Nodes.length c5) ∧ w'.cell? ⟨g, off + j * 2 + 1, none⟩ = some (.slice A6 x.Counts.length c6)) ((repeat' apply And.intro) <;> (first | ((repeat (first | assumption | with_reducible refine gro_keeps ?_ _ _ | with_reducible refine alloc_keeps ?_ _ | with_reducible refine drew_keeps ?_)); done) | (simp [go_sem]; done))) (first
          | (go_at_call 18; (with_reducible refine (merge_s (p := p) (q := x) (Ty.up _ (rdProf hF.out.read).1 (by repeat (first | with_reducible exact Gro.refl _ | with_reducible exact Gro.refl_drew _ _ _ | with_reducible exact Gro.refl_drewN _ _ _ _ | assumption | with_reducible apply Gro.more | with_reducible apply Gro.alloc | with_reducible apply Gro.drew | with_reducible apply Gro.drewN))) (Ty.up _ (rdProf hF.out.read).2 (by repeat (first | with_reducible exact Gro.refl _ | with_reducible exact Gro.refl_drew _ _ _ | with_reducible exact Gro.refl_drewN _ _ _ _ | assumption | with_reducible apply Gro.more | with_reducible apply Gro.alloc | with_reducible apply Gro.drew | with_reducible apply Gro.drewN))) (by omega) (Ty.up _ bx0 (hG.out.trans (by repeat (first | with_reducible exact Gro.refl _ | with_reducible exact Gro.refl_drew _ _ _ | with_reducible exact Gro.refl_drewN _ _ _ _ | assumption | with_reducible apply Gro.more | with_reducible apply Gro.alloc | with_reducible apply Gro.drew | with_reducible apply Gro.drewN)))) (Ty.up _ bx1 (hG.out.trans (by repeat (first | with_reducible exact Gro.refl _ | with_reducible exact Gro.refl_drew _ _ _ | with_reducible exact Gro.refl_drewN _ _ _ _ | assumption | with_reducible apply Gro.more | with_reducible apply Gro.alloc | with_reducible apply Gro.drew | with_reducible apply Gro.drewN)))) (by omega) (by omega)).mono ?_); rw [HR.out]; rintro e W7 ⟨A7, c7, A8, c8, rfl, hF7, os7, d7, rfl⟩))
        go_wp2_with (fail)
        · have h2 := set2 hb2.out (.slice none 0 0) (.slice none 0 0)
          have hy := box2 (grow_blk h2.1 (show Gro _ ((gro ((wr.setCell ⟨w.heap.size, 0, none⟩ (.slice none 0 0)).setCell ⟨w.heap.size, 1, none⟩ (.slice none 0 0)) os7 d7).alloc (.cells #[.slice A7 q.Stacks.Nodes.length c7, .slice A8 q.Counts.length c8] 33)) from (by repeat (first | with_reducible exact Gro.refl _ | with_reducible exact Gro.refl_drew _ _ _ | with_reducible exact Gro.refl_drewN _ _ _ _ | assumption | with_reducible apply Gro.more | with_reducible apply Gro.alloc | with_reducible apply Gro.drew | with_reducible apply Gro.drewN))))
          exact bodyPost_ret (v := .tuple #[.agg #[.slice none 0 0, .slice none 0 0], .bool false]) (by simp [results, Tryz.results23, go_sem, hy]) rfl (ret_profile_bool HB.out (fresh_emptyP _ _) (Gro.trans (h2.2.gro hG.out (fun b hb => by simp at hb; omega)) (by repeat (first | with_reducible exact Gro.refl _ | with_reducible exact Gro.refl_drew _ _ _ | with_reducible exact Gro.refl_drewN _ _ _ _ | assumption | with_reducible apply Gro.more | with_reducible apply Gro.alloc | with_reducible apply Gro.drew | with_reducible apply Gro.drewN))))
        · have h2 := set2 hb2.out (.slice none 0 0) (.slice none 0 0)
          have hy := box2 (grow_blk h2.1 (show Gro _ (gro (((wr.setCell ⟨w.heap.size, 0, none⟩ (.slice none 0 0)).setCell ⟨w.heap.size, 1, none⟩ (.slice none 0 0)).alloc (.cells #[.slice A7 q.Stacks.Nodes.length c7, .slice A8 q.Counts.length c8] 33)) os7 d7) from (by repeat (first | with_reducible exact Gro.refl _ | with_reducible exact Gro.refl_drew _ _ _ | with_reducible exact Gro.refl_drewN _ _ _ _ | assumption | with_reducible apply Gro.more | with_reducible apply Gro.alloc | with_reducible apply Gro.drew | with_reducible apply Gro.drewN))))
          exact bodyPost_ret (v := .tuple #[.agg #[.slice none 0 0, .slice none 0 0], .bool false]) (by simp [results, Tryz.results23, go_sem, hy]) rfl (ret_profile_bool HB.out (fresh_emptyP _ _) (Gro.trans (h2.2.gro hG.out (fun b hb => by simp at hb; omega)) (by repeat (first | with_reducible exact Gro.refl _ | with_reducible exact Gro.refl_drew _ _ _ | with_reducible exact Gro.refl_drewN _ _ _ _ | assumption | with_reducible apply Gro.more | with_reducible apply Gro.alloc | with_reducible apply Gro.drew | with_reducible apply Gro.drewN))))
      | true =>
        have hmk := mrg_ok hq
        have HMK := Lib.hid hmk.1
        have hmn := hmk.2
        have HL := Lib.hid (show mergeAllL (l.drop (j + 1)) q = mergeAllL l emptyP from by rw [← HT.out, HD.out, mergeAllL_yes hq])
        clear hq hmk
        go_wp2_with (fail)
        go_region_held3 (fun w' => w'.cell? ⟨w.heap.size + 1, 0, none⟩ = some (.slice A0 p.Stacks.Nodes.length c0) ∧ w'.cell? ⟨w.heap.size + 1, 1, none⟩ = some (.slice A1 p.Counts.length c1) ∧ w'.cell? ⟨g, off + j * 2, none⟩ = some (.slice A5 x.Stacks.Nodes.length c5) ∧ w'.cell? ⟨g, off + j * 2 + 1, none⟩ = some (.slice A6 x.Counts.length c6)) ((repeat' apply And.intro) <;> (first | ((repeat (first | assumption | with_reducible refine gro_keeps ?_ _ _ | with_reducible refine alloc_keeps ?_ _ | with_reducible refine drew_keeps ?_)); done) | (simp [go_sem]; done))) (first
          | (go_at_call 18; (with_reducible refine (merge_s (p := p) (q := x) (Ty.up _ (rdProf hF.out.read).1 (by repeat (first | with_reducible exact Gro.refl _ | with_reducible exact Gro.refl_drew _ _ _ | with_reducible exact Gro.refl_drewN _ _ _ _ | assumption | with_reducible apply Gro.more | with_reducible apply Gro.alloc | with_reducible apply Gro.drew | with_reducible apply Gro.drewN))) (Ty.up _ (rdProf hF.out.read).2 (by repeat (first | with_reducible exact Gro.refl _ | with_reducible exact Gro.refl_drew _ _ _ | with_reducible exact Gro.refl_drewN _ _ _ _ | assumption | with_reducible apply Gro.more | with_reducible apply Gro.alloc | with_reducible apply Gro.drew | with_reducible apply Gro.drewN))) (by omega) (Ty.up _ bx0 (hG.out.trans (by repeat (first | with_reducible exact Gro.refl _ | with_reducible exact Gro.refl_drew _ _ _ | with_reducible exact Gro.refl_drewN _ _ _ _ | assumption | with_reducible apply Gro.more | with_reducible apply Gro.alloc | with_reducible apply Gro.drew | with_reducible apply Gro.drewN)))) (Ty.up _ bx1 (hG.out.trans (by repeat (first | with_reducible exact Gro.refl _ | with_reducible exact Gro.refl_drew _ _ _ | with_reducible exact Gro.refl_drewN _ _ _ _ | assumption | with_reducible apply Gro.more | with_reducible apply Gro.alloc | with_reducible apply Gro.drew | with_reducible apply Gro.drewN)))) (by omega) (by omega)).mono ?_); rw [HR.out]; rintro e W7 ⟨A7, c7, A8, c8, rfl, hF7, os7, d7, rfl⟩))
        go_wp2_with (fail)
        all_goals go_roundw
        all_goals try (case measure => simp [intOf]; omega)
        · have h2 := set2 hb3.out (.slice A7 q.Stacks.Nodes.length c7) (.slice A8 q.Counts.length c8)
          have hz2 := h2.2.size
          refine ⟨j + 1, r2, q, A7, c7, A8, c8, by go_num, by omega, by omega, HR3, HMK, HL, Lib.hid (Gro.trans (h2.2.gro hG.out (fun b hb => by simp at hb; omega)) (by repeat (first | with_reducible exact Gro.refl _ | with_reducible exact Gro.refl_drew _ _ _ | with_reducible exact Gro.refl_drewN _ _ _ _ | assumption | with_reducible apply Gro.more | with_reducible apply Gro.alloc | with_reducible apply Gro.drew | with_reducible apply Gro.drewN))), by simp; omega, Lib.hid (grow_blk ((h2.2.block w.heap.size (by omega) (by simp)).trans hb2.out) (by repeat (first | with_reducible exact Gro.refl _ | with_reducible exact Gro.refl_drew _ _ _ | with_reducible exact Gro.refl_drewN _ _ _ _ | assumption | with_reducible apply Gro.more | with_reducible apply Gro.alloc | with_reducible apply Gro.drew | with_reducible apply Gro.drewN))), Lib.hid (grow_blk h2.1 (by repeat (first | with_reducible exact Gro.refl _ | with_reducible exact Gro.refl_drew _ _ _ | with_reducible exact Gro.refl_drewN _ _ _ _ | assumption | with_reducible apply Gro.more | with_reducible apply Gro.alloc | with_reducible apply Gro.drew | with_reducible apply Gro.drewN))), Lib.hid ?_⟩
          exact ((FrN.same (w2 := gro ((wr.setCell ⟨w.heap.size + 1, 0, none⟩ (.slice A7 q.Stacks.Nodes.length c7)).setCell ⟨w.heap.size + 1, 1, none⟩ (.slice A8 q.Counts.length c8)) os7 d7) hF7.frN (Same.base (by simp) (Nat.le_refl _))).gro (by (repeat (first | with_reducible exact Gro.refl _ | with_reducible exact Gro.refl_drew _ _ _ | with_reducible exact Gro.refl_drewN _ _ _ _ | assumption | with_reducible apply Gro.more | with_reducible apply Gro.alloc | with_reducible apply Gro.drew | with_reducible apply Gro.drewN)); done)).wide (by first | omega | (simp; omega)) (by simp)
        · have h2 := set2 hb3.out (.slice A7 q.Stacks.Nodes.length c7) (.slice A8 q.Counts.length c8)
          have hz2 := h2.2.size
          refine ⟨j + 1, r2, q, A7, c7, A8, c8, by go_num, by omega, by omega, HR3, HMK, HL, Lib.hid (Gro.trans (h2.2.gro hG.out (fun b hb => by simp at hb; omega)) (by repeat (first | with_reducible exact Gro.refl _ | with_reducible exact Gro.refl_drew _ _ _ | with_reducible exact Gro.refl_drewN _ _ _ _ | assumption | with_reducible apply Gro.more | with_reducible apply Gro.alloc | with_reducible apply Gro.drew | with_reducible apply Gro.drewN))), by simp; omega, Lib.hid (grow_blk ((h2.2.block w.heap.size (by omega) (by simp)).trans hb2.out) (by repeat (first | with_reducible exact Gro.refl _ | with_reducible exact Gro.refl_drew _ _ _ | with_reducible exact Gro.refl_drewN _ _ _ _ | assumption | with_reducible apply Gro.more | with_reducible apply Gro.alloc | with_reducible apply Gro.drew | with_reducible apply Gro.drewN))), Lib.hid (grow_blk h2.1 (by repeat (first | with_reducible exact Gro.refl _ | with_reducible exact Gro.refl_drew _ _ _ | with_reducible exact Gro.refl_drewN _ _ _ _ | assumption | with_reducible apply Gro.more | with_reducible apply Gro.alloc | with_reducible apply Gro.drew | with_reducible apply Gro.drewN))), Lib.hid ?_⟩
          exact ((FrN.same (w2 := gro (((wr.setCell ⟨w.heap.size + 1, 0, none⟩ (.slice A7 q.Stacks.Nodes.length c7)).setCell ⟨w.heap.size + 1, 1, none⟩ (.slice A8 q.Counts.length c8)).alloc (.cells #[.slice A7 q.Stacks.Nodes.length c7, .slice A8 q.Counts.length c8] 33)) os7 d7) hF7.frN (Same.base (by simp) (Nat.le_refl _))).gro (by (repeat (first | with_reducible exact Gro.refl _ | with_reducible exact Gro.refl_drew _ _ _ | with_reducible exact Gro.refl_drewN _ _ _ _ | assumption | with_reducible apply Gro.more | with_reducible apply Gro.alloc | with_reducible apply Gro.drew | with_reducible apply Gro.drewN)); done)).wide (by first | omega | (simp; omega)) (by simp)
    · obtain rfl : j = l.length := by omega
      have HE := Lib.hid (mergeAllP_yes (l := l) (p := p) (by rw [← HT.out, List.drop_length]; rfl))
      have h2 := set2 hb2.out (.slice A0 p.Stacks.Nodes.length c0) (.slice A1 p.Counts.length c1)
      have ha := box2 h2.1
      go_wp2_with (fail)
      refine bodyPost_ret (v := .tuple #[.agg #[.slice A0 p.Stacks.Nodes.length c0, .slice A1 p.Counts.length c1], .bool true]) (by simp [results, Tryz.results23, go_sem, ha]) rfl (ret_profile_bool HE.out (((hF.out.only h2.2 (by omega)).fresh (by omega))) (h2.2.gro hG.out (fun b hb => by simp at hb; omega)))
theorem cntP_sz (l : List DProfile) : cntProfileS l ≤ 3 * (l.map szProfile).sum := by
  unfold cntProfileS cntL
  induction l with
  | nil => simp
  | cons x l ih =>
    simp only [List.map_cons, List.sum_cons]
    have h1 : cntProfile x = x.Stacks.Nodes.length * 3 + x.Counts.length := rfl
    have h2 : szProfile x = x.Stacks.Nodes.length + (x.Stacks.Nodes.map szNode).sum + x.Counts.length := rfl
    omega
end Go.Proofs.YtfpacmfhpkcipaaGreatDoor
