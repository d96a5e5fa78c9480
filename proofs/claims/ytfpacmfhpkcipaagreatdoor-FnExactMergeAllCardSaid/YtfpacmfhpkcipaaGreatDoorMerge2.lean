/-
  MERGE, PART 2: MergeProfiles of the reference.
-/
import Derived.Test.YtfpacmfhpkcipaaGreatDoorMerge
set_option linter.unusedVariables false
set_option linter.unusedSimpArgs false
namespace Go.Proofs.YtfpacmfhpkcipaaGreatDoor
open Go.RowKit
set_option maxRecDepth 100000 in
set_option maxHeartbeats 60000000 in
theorem merge_s {p q : DProfile} {w : World} {A0 A1 A2 A3 : Option Addr} {c0 c1 c2 c3 : Nat} (hx : (tNode.sl 101).R w w.heap.size [.slice A0 p.Stacks.Nodes.length c0] p.Stacks.Nodes) (hy : (intT.sl 3).R w w.heap.size [.slice A1 p.Counts.length c1] p.Counts) (hn : p.Stacks.Nodes.length ≤ 16777216)
    (hz : (tNode.sl 101).R w w.heap.size [.slice A2 q.Stacks.Nodes.length c2] q.Stacks.Nodes) (hu : (intT.sl 3).R w w.heap.size [.slice A3 q.Counts.length c3] q.Counts) (hn2 : q.Stacks.Nodes.length ≤ 16777216) (hfr : frSum (entriesOf p ++ entriesOf q) ≤ 500000000000) :
    Calls Tryz.prog 18 #[.agg #[.slice A0 p.Stacks.Nodes.length c0, .slice A1 p.Counts.length c1], .agg #[.slice A2 q.Stacks.Nodes.length c2, .slice A3 q.Counts.length c3]] w (RetProfileBool (mergeP p q) w) := by
  cases hp : profileOk p
  · have HR := Lib.hid (show mergeP p q = (emptyP, false) from by simp [mergeP, hp])
    have HP := Lib.hid hp
    clear hp
    go_enter Tryz.func18, Tryz.ntmps18
    go_wp2_with (go_at_call 45; (with_reducible refine (profileOk_s (p := p) (Ty.up _ hx (by repeat (first | with_reducible exact Gro.refl _ | with_reducible exact Gro.refl_drew _ _ _ | with_reducible exact Gro.refl_drewN _ _ _ _ | assumption | with_reducible apply Gro.more | with_reducible apply Gro.alloc | with_reducible apply Gro.drew | with_reducible apply Gro.drewN))) (Ty.up _ hy (by repeat (first | with_reducible exact Gro.refl _ | with_reducible exact Gro.refl_drew _ _ _ | with_reducible exact Gro.refl_drewN _ _ _ _ | assumption | with_reducible apply Gro.more | with_reducible apply Gro.alloc | with_reducible apply Gro.drew | with_reducible apply Gro.drewN)))).mono ?_); rw [HP.out]; rintro e w1 ⟨rfl, os1p, d1p, rfl⟩)
    refine bodyPost_ret (v := .tuple #[.agg #[.slice none 0 0, .slice none 0 0], .bool false]) (by simp [results, Tryz.results18, go_sem]) rfl (ret_profile_bool HR.out (fresh_emptyP _ _) (by repeat (first | with_reducible exact Gro.refl _ | with_reducible exact Gro.refl_drew _ _ _ | with_reducible exact Gro.refl_drewN _ _ _ _ | assumption | with_reducible apply Gro.more | with_reducible apply Gro.alloc | with_reducible apply Gro.drew | with_reducible apply Gro.drewN)))
  cases hq : profileOk q
  · have HR := Lib.hid (show mergeP p q = (emptyP, false) from by simp [mergeP, hp, hq])
    have HP := Lib.hid hp
    have HQ := Lib.hid hq
    clear hp hq
    go_enter Tryz.func18, Tryz.ntmps18
    go_wp2_with (first
      | (go_at_call 45; (with_reducible refine (profileOk_s (p := p) (Ty.up _ hx (by repeat (first | with_reducible exact Gro.refl _ | with_reducible exact Gro.refl_drew _ _ _ | with_reducible exact Gro.refl_drewN _ _ _ _ | assumption | with_reducible apply Gro.more | with_reducible apply Gro.alloc | with_reducible apply Gro.drew | with_reducible apply Gro.drewN))) (Ty.up _ hy (by repeat (first | with_reducible exact Gro.refl _ | with_reducible exact Gro.refl_drew _ _ _ | with_reducible exact Gro.refl_drewN _ _ _ _ | assumption | with_reducible apply Gro.more | with_reducible apply Gro.alloc | with_reducible apply Gro.drew | with_reducible apply Gro.drewN)))).mono ?_); rw [HP.out]; rintro e w1 ⟨rfl, os1p, d1p, rfl⟩)
      | (go_at_call 45; (with_reducible refine (profileOk_s (p := q) (Ty.up _ hz (by repeat (first | with_reducible exact Gro.refl _ | with_reducible exact Gro.refl_drew _ _ _ | with_reducible exact Gro.refl_drewN _ _ _ _ | assumption | with_reducible apply Gro.more | with_reducible apply Gro.alloc | with_reducible apply Gro.drew | with_reducible apply Gro.drewN))) (Ty.up _ hu (by repeat (first | with_reducible exact Gro.refl _ | with_reducible exact Gro.refl_drew _ _ _ | with_reducible exact Gro.refl_drewN _ _ _ _ | assumption | with_reducible apply Gro.more | with_reducible apply Gro.alloc | with_reducible apply Gro.drew | with_reducible apply Gro.drewN)))).mono ?_); rw [HQ.out]; rintro e w1 ⟨rfl, os1q, d1q, rfl⟩))
    refine bodyPost_ret (v := .tuple #[.agg #[.slice none 0 0, .slice none 0 0], .bool false]) (by simp [results, Tryz.results18, go_sem]) rfl (ret_profile_bool HR.out (fresh_emptyP _ _) (by repeat (first | with_reducible exact Gro.refl _ | with_reducible exact Gro.refl_drew _ _ _ | with_reducible exact Gro.refl_drewN _ _ _ _ | assumption | with_reducible apply Gro.more | with_reducible apply Gro.alloc | with_reducible apply Gro.drew | with_reducible apply Gro.drewN)))
  have HP := Lib.hid hp
  have HQ := Lib.hid hq
  have hlp := entriesOf_len p
  have hlq := entriesOf_len q
  have hcp := Nat.le_of_eq (pOk_len hp)
  have hcq := Nat.le_of_eq (pOk_len hq)
  obtain ⟨t, ok, ht⟩ : ∃ t ok, profR (entriesOf p ++ entriesOf q) = (t, ok) := ⟨_, _, rfl⟩
  have HR := Lib.hid (show mergeP p q = (t, ok) from by simp only [mergeP, hp, hq, Bool.and_self, if_true]; exact ht)
  obtain ⟨l, hl⟩ : ∃ l, entriesOf p ++ entriesOf q = l := ⟨_, rfl⟩
  have HSZ := Lib.hid (show ∀ (j : Nat) (e : DEntry), l[j]? = some e → e.Stack.size ≤ 12 * (p.Stacks.Nodes.length + q.Stacks.Nodes.length) from fun j e h => ents_sz2 (by rw [hl]; exact h))
  have HL := Lib.hid hl
  have HLL := Lib.hid (show l.length = (entriesOf p).length + (entriesOf q).length from by rw [← hl, List.length_append])
  have hll : l.length ≤ (entriesOf p).length + (entriesOf q).length := Nat.le_of_eq HLL.out
  rw [hl] at ht hfr
  have HT := Lib.hid ht
  clear hp hq ht hl
  go_enter Tryz.func18, Tryz.ntmps18
  go_wp2_with (first
    | (go_at_call 45; (with_reducible refine (profileOk_s (p := p) (Ty.up _ hx (by repeat (first | with_reducible exact Gro.refl _ | with_reducible exact Gro.refl_drew _ _ _ | with_reducible exact Gro.refl_drewN _ _ _ _ | assumption | with_reducible apply Gro.more | with_reducible apply Gro.alloc | with_reducible apply Gro.drew | with_reducible apply Gro.drewN))) (Ty.up _ hy (by repeat (first | with_reducible exact Gro.refl _ | with_reducible exact Gro.refl_drew _ _ _ | with_reducible exact Gro.refl_drewN _ _ _ _ | assumption | with_reducible apply Gro.more | with_reducible apply Gro.alloc | with_reducible apply Gro.drew | with_reducible apply Gro.drewN)))).mono ?_); rw [HP.out]; rintro e w1 ⟨rfl, os1p, d1p, rfl⟩)
    | (go_at_call 45; (with_reducible refine (profileOk_s (p := q) (Ty.up _ hz (by repeat (first | with_reducible exact Gro.refl _ | with_reducible exact Gro.refl_drew _ _ _ | with_reducible exact Gro.refl_drewN _ _ _ _ | assumption | with_reducible apply Gro.more | with_reducible apply Gro.alloc | with_reducible apply Gro.drew | with_reducible apply Gro.drewN))) (Ty.up _ hu (by repeat (first | with_reducible exact Gro.refl _ | with_reducible exact Gro.refl_drew _ _ _ | with_reducible exact Gro.refl_drewN _ _ _ _ | assumption | with_reducible apply Gro.more | with_reducible apply Gro.alloc | with_reducible apply Gro.drew | with_reducible apply Gro.drewN)))).mono ?_); rw [HQ.out]; rintro e w1 ⟨rfl, os1q, d1q, rfl⟩))
  go_region_held3 (fun w' => w'.cell? ⟨w.heap.size, 0, none⟩ = some (.slice A0 p.Stacks.Nodes.length c0) ∧ w'.cell? ⟨w.heap.size, 1, none⟩ = some (.slice A1 p.Counts.length c1) ∧ w'.cell? ⟨w.heap.size + 1, 0, none⟩ = some (.slice A2 q.Stacks.Nodes.length c2) ∧ w'.cell? ⟨w.heap.size + 1, 1, none⟩ = some (.slice A3 q.Counts.length c3)) ((repeat' apply And.intro) <;> (first | ((repeat (first | assumption | with_reducible refine gro_keeps ?_ _ _ | with_reducible refine alloc_keeps ?_ _ | with_reducible refine drew_keeps ?_)); done) | (simp [go_sem]; done))) (first
    | (go_simp; go_at_call 46; (with_reducible refine (entriesOf_s (p := p) (Ty.up _ hx (by repeat (first | with_reducible exact Gro.refl _ | with_reducible exact Gro.refl_drew _ _ _ | with_reducible exact Gro.refl_drewN _ _ _ _ | assumption | with_reducible apply Gro.more | with_reducible apply Gro.alloc | with_reducible apply Gro.drew | with_reducible apply Gro.drewN))) (Ty.up _ hy (by repeat (first | with_reducible exact Gro.refl _ | with_reducible exact Gro.refl_drew _ _ _ | with_reducible exact Gro.refl_drewN _ _ _ _ | assumption | with_reducible apply Gro.more | with_reducible apply Gro.alloc | with_reducible apply Gro.drew | with_reducible apply Gro.drewN))) (by omega)).mono ?_); rintro e w3 ⟨B3, b3, rfl, hF3, os3, d3, rfl⟩; try simp only [fresh_drew, gro_drew_eq] at hF3)
    | (go_simp; go_at_call 46; (with_reducible refine (entriesOf_s (p := q) (Ty.up _ hz (by repeat (first | with_reducible exact Gro.refl _ | with_reducible exact Gro.refl_drew _ _ _ | with_reducible exact Gro.refl_drewN _ _ _ _ | assumption | with_reducible apply Gro.more | with_reducible apply Gro.alloc | with_reducible apply Gro.drew | with_reducible apply Gro.drewN))) (Ty.up _ hu (by repeat (first | with_reducible exact Gro.refl _ | with_reducible exact Gro.refl_drew _ _ _ | with_reducible exact Gro.refl_drewN _ _ _ _ | assumption | with_reducible apply Gro.more | with_reducible apply Gro.alloc | with_reducible apply Gro.drew | with_reducible apply Gro.drewN))) (by omega)).mono ?_); rintro e w3 ⟨B4, b4, rfl, hF4, os4, d4, rfl⟩; try simp only [fresh_drew, gro_drew_eq] at hF4)
    | (refine step_append_flat1 (b := .cells #[.slice none 0 0, .slice none 0 0] 33) (L := l.length) rfl (.tmp 19) (.tmp 21) elEntry flatEntry hF3 (Gro.of _ os4 d4) (Ty.up _ hF4.read (by (repeat (first | with_reducible exact Gro.refl _ | with_reducible exact Gro.refl_drew _ _ _ | with_reducible exact Gro.refl_drewN _ _ _ _ | assumption | with_reducible apply Gro.more | with_reducible apply Gro.alloc | with_reducible apply Gro.drew | with_reducible apply Gro.drewN)); done)) rfl rfl rfl HLL.out (by omega) (by omega) ?_; intro D5 e5 os7 os5 d5 hos7 hF5; rw [HL.out] at hF5)
    | (refine step_append_flat2 (b := .cells #[.slice none 0 0, .slice none 0 0] 33) (L := l.length) rfl (.tmp 19) (.tmp 21) elEntry flatEntry hF3 (Gro.refl _) (Ty.up _ hF4.read (by (repeat (first | with_reducible exact Gro.refl _ | with_reducible exact Gro.refl_drew _ _ _ | with_reducible exact Gro.refl_drewN _ _ _ _ | assumption | with_reducible apply Gro.more | with_reducible apply Gro.alloc | with_reducible apply Gro.drew | with_reducible apply Gro.drewN)); done)) rfl rfl rfl HLL.out (by omega) (by omega) ?_; intro D5 e5 os7 os8 os5 d5 hos7 hos8 hF5; rw [HL.out] at hF5)
    | (refine step_append_flat (L := l.length) rfl (.tmp 19) (.tmp 21) elEntry flatEntry (hF3.gro (Gro.of _ os4 d4)) gro_of2 (Ty.up _ hF4.read (by (repeat (first | with_reducible exact Gro.refl _ | with_reducible exact Gro.refl_drew _ _ _ | with_reducible exact Gro.refl_drewN _ _ _ _ | assumption | with_reducible apply Gro.more | with_reducible apply Gro.alloc | with_reducible apply Gro.drew | with_reducible apply Gro.drewN)); done)) rfl rfl rfl HLL.out (by omega) (by omega) ?_; intro D5 e5 os5 d5 hF5; rw [HL.out] at hF5)
    | (go_simp; go_at_call 37; (with_reducible refine (profOf_s (l := l) (Ty.up _ hF5.read (by repeat (first | with_reducible exact Gro.refl _ | with_reducible exact Gro.refl_drew _ _ _ | with_reducible exact Gro.refl_drewN _ _ _ _ | assumption | with_reducible apply Gro.more | with_reducible apply Gro.alloc | with_reducible apply Gro.drew | with_reducible apply Gro.drewN))) (fun j e h => by have := HSZ.out j e h; omega) hfr).mono ?_); rw [HT.out]; rintro e w4 ⟨A6, c6, A7, c7, rfl, hF6, os6, d6, rfl⟩))
  all_goals go_wp2_with (fail)
  all_goals refine bodyPost_ret (v := .tuple #[.agg #[.slice A6 t.Stacks.Nodes.length c6, .slice A7 t.Counts.length c7], .bool ok]) (by simp [results, Tryz.results18, go_sem]) rfl (ret_profile_bool HR.out ?_ (by repeat (first | with_reducible exact Gro.refl _ | with_reducible exact Gro.refl_drew _ _ _ | with_reducible exact Gro.refl_drewN _ _ _ _ | assumption | with_reducible apply Gro.more | with_reducible apply Gro.alloc | with_reducible apply Gro.drew | with_reducible apply Gro.drewN)))
  all_goals first
    | (have h9 := hF6
       simp only [gro_alloc, gro_drew_eq, gro_gro] at h9 ⊢
       refine FrN.fresh (FrN.same h9.frN (Same.base ?_ ?_)) ?_
       · simp
       · simp <;> omega
       · simp <;> omega)
    | (have h9 := hF6.gro ((Gro.refl _).alloc (.cells #[.slice A6 t.Stacks.Nodes.length c6, .slice A7 t.Counts.length c7] 33))
       simp only [gro_alloc, gro_drew_eq, gro_gro] at h9 ⊢
       refine FrN.fresh (FrN.same h9.frN (Same.base ?_ ?_)) ?_
       · simp
       · simp <;> omega
       · simp <;> omega)
    | (have h9 := hF6
       simp only [gro_alloc, gro_drew_eq, gro_gro] at h9 ⊢
       refine FrN.fresh (FrN.same h9.frN (Same.tail ?_ ?_ ?_)) ?_
       · simp
       · simp
       · simp <;> omega
       · simp <;> omega)
end Go.Proofs.YtfpacmfhpkcipaaGreatDoor
