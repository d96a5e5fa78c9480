/-
  ENTRIES, PART 3: EntriesOf of the program.
-/
import Derived.Test.YtcomafmiclkmhaaGreatDoorEntSort
import Derived.Test.YtcomafmiclkmhaaGreatDoorBox4
set_option linter.unusedVariables false
set_option linter.unusedSimpArgs false
namespace Go.Proofs.YtcomafmiclkmhaaGreatDoor
open Go.RowKit
set_option maxRecDepth 100000 in
set_option maxHeartbeats 4000000 in
theorem entriesOf_i {p : DProfile} {w : World} {A0 A1 : Option Addr} {c0 c1 : Nat} (hx : (tNode.sl 48).R w w.heap.size [.slice A0 p.Stacks.Nodes.length c0] p.Stacks.Nodes) (hy : (intT.sl 3).R w w.heap.size [.slice A1 p.Counts.length c1] p.Counts) (hn : p.Stacks.Nodes.length ≤ 1099511627776) :
    Calls Tryz.prog 21 #[.agg #[.slice A0 p.Stacks.Nodes.length c0, .slice A1 p.Counts.length c1]] w (RetSl tEntry 62 (entriesOf p) w) := by
  cases hok : profileOk p
  · have HF := Lib.hid (show entriesOf p = [] from by simp [entriesOf, hok])
    have HO := Lib.hid hok
    clear hok
    go_enter Tryz.func21, Tryz.ntmps21
    go_wp2_with (go_at_call 14; go_must ((with_reducible refine (profileOk_i (p := p) (Ty.up _ hx (by repeat (first | with_reducible exact Gro.refl _ | with_reducible exact Gro.refl_drew _ _ _ | with_reducible exact Gro.refl_drewN _ _ _ _ | assumption | with_reducible apply Gro.more | with_reducible apply Gro.alloc | with_reducible apply Gro.drew | with_reducible apply Gro.drewN))) (Ty.up _ hy (by repeat (first | with_reducible exact Gro.refl _ | with_reducible exact Gro.refl_drew _ _ _ | with_reducible exact Gro.refl_drewN _ _ _ _ | assumption | with_reducible apply Gro.more | with_reducible apply Gro.alloc | with_reducible apply Gro.drew | with_reducible apply Gro.drewN)))).mono ?_); rw [HO.out]); rintro e w1 ⟨rfl, os1, d1, rfl⟩)
    go_ret
    rw [HF.out]
    exact ⟨none, 0, rfl, fresh_nil _ _, (by repeat (first | with_reducible exact Gro.refl _ | with_reducible exact Gro.refl_drew _ _ _ | with_reducible exact Gro.refl_drewN _ _ _ _ | assumption | with_reducible apply Gro.more | with_reducible apply Gro.alloc | with_reducible apply Gro.drew | with_reducible apply Gro.drewN))⟩
  · have hcl : p.Counts.length = p.Stacks.Nodes.length := pOk_len hok
    have HS := Lib.hid (fun (l : List DEntry) (h1 : l.Perm (entTake p p.Counts.length)) h2 => ents_sort hok h1 h2)
    have HN := Lib.hid (fun k c (h : p.Counts[k]? = some c) => profileOk_counts hok h)
    have HCL := Lib.hid hcl
    have hcl2 : p.Counts.length ≤ p.Stacks.Nodes.length := by omega
    have HO := Lib.hid hok
    clear hok hcl
    go_enter Tryz.func21, Tryz.ntmps21
    go_wp2_with (go_at_call 14; go_must ((with_reducible refine (profileOk_i (p := p) (Ty.up _ hx (by repeat (first | with_reducible exact Gro.refl _ | with_reducible exact Gro.refl_drew _ _ _ | with_reducible exact Gro.refl_drewN _ _ _ _ | assumption | with_reducible apply Gro.more | with_reducible apply Gro.alloc | with_reducible apply Gro.drew | with_reducible apply Gro.drewN))) (Ty.up _ hy (by repeat (first | with_reducible exact Gro.refl _ | with_reducible exact Gro.refl_drew _ _ _ | with_reducible exact Gro.refl_drewN _ _ _ _ | assumption | with_reducible apply Gro.more | with_reducible apply Gro.alloc | with_reducible apply Gro.drew | with_reducible apply Gro.drewN)))).mono ?_); rw [HO.out]); rintro e w1 ⟨rfl, os1, d1, rfl⟩)
    go_loopw [3, 13] (fun a b wr => ∃ (j : Nat) (acc : List DEntry) (A : Option Addr) (c : Nat), a = .slice A acc.length c ∧ b = .int .i64 j ∧ j ≤ p.Counts.length ∧ acc.length ≤ j ∧ Hid (acc = entTake p j) ∧ Hid (A ≠ none) ∧ Hid (Gro (w.alloc (.cells #[.slice A0 p.Stacks.Nodes.length c0, .slice A1 p.Counts.length c1] 29)) wr) ∧ Hid (Fresh (tEntry.sl 62) (w.alloc (.cells #[.slice A0 p.Stacks.Nodes.length c0, .slice A1 p.Counts.length c1] 29)) wr [.slice A acc.length c] acc)) (fun _ b _ => p.Counts.length - (intOf b).toNat)
    case atStart => exact ⟨0, [], _, 0, rfl, rfl, by omega, by simp, Lib.hid (by simp [entTake]), Lib.hid (by simp), Lib.hid (by repeat (first | with_reducible exact Gro.refl _ | with_reducible exact Gro.refl_drew _ _ _ | with_reducible exact Gro.refl_drewN _ _ _ _ | assumption | with_reducible apply Gro.more | with_reducible apply Gro.alloc | with_reducible apply Gro.drew | with_reducible apply Gro.drewN)), Lib.hid (fresh_empty2 (by repeat (first | with_reducible exact Gro.refl _ | with_reducible exact Gro.refl_drew _ _ _ | with_reducible exact Gro.refl_drewN _ _ _ _ | assumption | with_reducible apply Gro.more | with_reducible apply Gro.alloc | with_reducible apply Gro.drew | with_reducible apply Gro.drewN)) (by repeat (first | with_reducible exact Gro.refl _ | with_reducible exact Gro.refl_drew _ _ _ | with_reducible exact Gro.refl_drewN _ _ _ _ | assumption | with_reducible apply Gro.more | with_reducible apply Gro.alloc | with_reducible apply Gro.drew | with_reducible apply Gro.drewN)) (by simp))⟩
    case round =>
      obtain ⟨j, acc, A, c, rfl, rfl, hj, hacc, HT, HA, hG, hF⟩ := hrel
      obtain ⟨os, d, rfl⟩ := hG.out
      clear hG
      by_cases hlt : j < p.Counts.length
      · obtain ⟨g2, off2, n, rfl, hnk, hcn, bn⟩ := ints_at hy hlt
        have HX := Lib.hid hnk
        have hn0 := HN.out j n hnk
        have HYL := Lib.hid hy
        have hgb2 := World.block_lt_of_cell? _ _ hcn
        simp only at hgb2
        clear hnk hy
        by_cases hz : n = 0
        · subst hz
          go_wp2_with (fail)
          go_roundw
          case rel => exact ⟨j + 1, acc, A, c, rfl, by go_num, by omega, by omega, Lib.hid (by rw [entTake_zero HX.out]; exact HT.out), HA, Lib.hid (by repeat (first | with_reducible exact Gro.refl _ | with_reducible exact Gro.refl_drew _ _ _ | with_reducible exact Gro.refl_drewN _ _ _ _ | assumption | with_reducible apply Gro.more | with_reducible apply Gro.alloc | with_reducible apply Gro.drew | with_reducible apply Gro.drewN)), hF⟩
          case measure => simp [intOf]; omega
        · have hpos : 0 < n := by omega
          have HZ := Lib.hid hz
          clear hz hn0
          have hj64 : I64 (j : Int) := ⟨by omega, by omega⟩
          have hsl := stackAt_len p.Stacks j
          have hsl2 : (stackAt p.Stacks j).length ≤ 1099511627776 := by omega
          have hss := fmtF_size (stackAt p.Stacks j)
          have hsz : (fmtF (stackAt p.Stacks j)).size ≤ 9223372036854775807 := by omega
          go_wp2_with (first
            | (go_at_call 40; go_must ((with_reducible refine (stackAt_i (t := p.Stacks) (k := j) (Ty.up _ hx (by repeat (first | with_reducible exact Gro.refl _ | with_reducible exact Gro.refl_drew _ _ _ | with_reducible exact Gro.refl_drewN _ _ _ _ | assumption | with_reducible apply Gro.more | with_reducible apply Gro.alloc | with_reducible apply Gro.drew | with_reducible apply Gro.drewN))) (by omega)).mono ?_)); rintro e w3 ⟨A3, c3, rfl, hF3, os3, d3, rfl⟩)
            | (go_at_call 39; go_must ((with_reducible refine (fmtF_i (l := stackAt p.Stacks j) (Ty.up _ hF3.read (by repeat (first | with_reducible exact Gro.refl _ | with_reducible exact Gro.refl_drew _ _ _ | with_reducible exact Gro.refl_drewN _ _ _ _ | assumption | with_reducible apply Gro.more | with_reducible apply Gro.alloc | with_reducible apply Gro.drew | with_reducible apply Gro.drewN))) hsl2).mono ?_)); rintro e w4 ⟨rfl, os4, d4, rfl⟩)
            | (at_builtin; go_must (refine wpList_append_fone (W0 := w.alloc (.cells #[.slice A0 p.Stacks.Nodes.length c0, .slice (some ⟨g2, off2, none⟩) p.Counts.length c1] 29)) (L := acc.length + 1) rfl (.tmp 20) (.tmp 28) elEntry flatEntry (hF.out.gro (by repeat (first | with_reducible exact Gro.refl _ | with_reducible exact Gro.refl_drew _ _ _ | with_reducible exact Gro.refl_drewN _ _ _ _ | assumption | with_reducible apply Gro.more | with_reducible apply Gro.alloc | with_reducible apply Gro.drew | with_reducible apply Gro.drewN))).fre (by repeat (first | with_reducible exact Gro.refl _ | with_reducible exact Gro.refl_drew _ _ _ | with_reducible exact Gro.refl_drewN _ _ _ _ | assumption | with_reducible apply Gro.more | with_reducible apply Gro.alloc | with_reducible apply Gro.drew | with_reducible apply Gro.drewN)) (W1 := w) (B := 0) (ec := [.string (fmtF (stackAt p.Stacks j)), .int .i64 n]) (y := ⟨fmtF (stackAt p.Stacks j), n⟩) (tEntry_mkR (x := ⟨fmtF (stackAt p.Stacks j), n⟩) hsz bn) rfl rfl rfl (by intro j u hu; simpa [go_sem] using hu) rfl (by omega) (by omega) ?_); intro D2 e2 os2 d2 hF2))
          go_roundw
          case rel => exact ⟨j + 1, acc ++ [⟨fmtF (stackAt p.Stacks j), n⟩], D2, e2, by simp, by go_num, by omega, by simp; omega, Lib.hid (by rw [HT.out, entTake_snoc HX.out HZ.out]), Lib.hid (by have := (ents_own (c := e2) (xs := acc ++ [⟨fmtF (stackAt p.Stacks j), n⟩]) (by simpa using hF2)).2; rcases this with ⟨_, h, _⟩ | ⟨g, cur, h, _⟩; exact absurd h (by simp); rw [h]; simp), Lib.hid (by repeat (first | with_reducible exact Gro.refl _ | with_reducible exact Gro.refl_drew _ _ _ | with_reducible exact Gro.refl_drewN _ _ _ _ | assumption | with_reducible apply Gro.more | with_reducible apply Gro.alloc | with_reducible apply Gro.drew | with_reducible apply Gro.drewN)), Lib.hid (by simpa using hF2)⟩
          case measure => simp [intOf]; omega
      · have hje : j = p.Counts.length := by omega
        subst hje
        go_wp2_with (go_at_call 41; go_must ((with_reducible refine (sort_ents (W0 := w.alloc (.cells #[.slice A0 p.Stacks.Nodes.length c0, .slice A1 p.Counts.length c1] 29)) hF.out HA.out (by repeat (first | with_reducible exact Gro.refl _ | with_reducible exact Gro.refl_drew _ _ _ | with_reducible exact Gro.refl_drewN _ _ _ _ | assumption | with_reducible apply Gro.more | with_reducible apply Gro.alloc | with_reducible apply Gro.drew | with_reducible apply Gro.drewN)) (by omega)).mono ?_)); rintro e w5 ⟨rfl, ys, hp, hs, hF5, hG5⟩)
        obtain ⟨os5, d5, rfl⟩ := hG5
        have HL := hp.length_eq
        rw [HT.out] at hp
        have HQ := HS.out ys hp hs
        go_ret
        rw [← HQ]
        exact ⟨A, c, by rw [HL]; rfl, hF5.since (by simp), (by repeat (first | with_reducible exact Gro.refl _ | with_reducible exact Gro.refl_drew _ _ _ | with_reducible exact Gro.refl_drewN _ _ _ _ | assumption | with_reducible apply Gro.more | with_reducible apply Gro.alloc | with_reducible apply Gro.drew | with_reducible apply Gro.drewN))⟩
end Go.Proofs.YtcomafmiclkmhaaGreatDoor
