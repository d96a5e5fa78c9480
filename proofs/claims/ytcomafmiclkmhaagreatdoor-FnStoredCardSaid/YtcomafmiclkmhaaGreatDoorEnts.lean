/-
  ENTRIES: EntriesOf of the reference.
-/
import Derived.Test.YtcomafmiclkmhaaGreatDoorEntLaw
import Derived.Test.YtcomafmiclkmhaaGreatDoorLsEntry
import Derived.Test.YtcomafmiclkmhaaGreatDoorBox4
import Derived.Deep.RegionHeld3
import Derived.Deep.RegionLaw
import Derived.Deep.CutRange
import Derived.BigQuiet
set_option linter.unusedVariables false
set_option linter.unusedSimpArgs false
namespace Go.Proofs.YtcomafmiclkmhaaGreatDoor
open Go.RowKit
set_option maxRecDepth 100000 in
set_option maxHeartbeats 4000000 in
theorem entriesOf_s {p : DProfile} {w : World} {A0 A1 : Option Addr} {c0 c1 : Nat} (hx : (tNode.sl 48).R w w.heap.size [.slice A0 p.Stacks.Nodes.length c0] p.Stacks.Nodes) (hy : (intT.sl 3).R w w.heap.size [.slice A1 p.Counts.length c1] p.Counts) (hn : p.Stacks.Nodes.length ≤ 1099511627776) :
    Calls Tryz.prog 27 #[.agg #[.slice A0 p.Stacks.Nodes.length c0, .slice A1 p.Counts.length c1]] w (RetSl tEntry 62 (entriesOf p) w) := by
  cases hok : profileOk p
  · have HF := Lib.hid (show entriesOf p = [] from by simp [entriesOf, hok])
    have HO := Lib.hid hok
    clear hok
    go_enter Tryz.func27, Tryz.ntmps27
    go_wp2_with (go_at_call 25; go_must ((with_reducible refine (profileOk_s (p := p) (Ty.up _ hx (by repeat (first | with_reducible exact Gro.refl _ | with_reducible exact Gro.refl_drew _ _ _ | with_reducible exact Gro.refl_drewN _ _ _ _ | assumption | with_reducible apply Gro.more | with_reducible apply Gro.alloc | with_reducible apply Gro.drew | with_reducible apply Gro.drewN))) (Ty.up _ hy (by repeat (first | with_reducible exact Gro.refl _ | with_reducible exact Gro.refl_drew _ _ _ | with_reducible exact Gro.refl_drewN _ _ _ _ | assumption | with_reducible apply Gro.more | with_reducible apply Gro.alloc | with_reducible apply Gro.drew | with_reducible apply Gro.drewN)))).mono ?_); rw [HO.out]); rintro e w1 ⟨rfl, os1, d1, rfl⟩)
    go_loop [3, 5] (fun x y => x = .slice (some ⟨w.heap.size + 1, 0, none⟩) 0 0 ∧ y = .int .i64 0) (fun _ _ => 0)
    case atStart => exact ⟨rfl, rfl⟩
    case round =>
      obtain ⟨rfl, rfl⟩ := hrel
      by_cases h0 : 0 < p.Counts.length
      all_goals
        go_wp2
        go_ret
        rw [HF.out]
        exact ⟨_, 0, rfl, fresh_empty2 (W0 := w) (by repeat (first | with_reducible exact Gro.refl _ | with_reducible exact Gro.refl_drew _ _ _ | with_reducible exact Gro.refl_drewN _ _ _ _ | assumption | with_reducible apply Gro.more | with_reducible apply Gro.alloc | with_reducible apply Gro.drew | with_reducible apply Gro.drewN)) (by repeat (first | with_reducible exact Gro.refl _ | with_reducible exact Gro.refl_drew _ _ _ | with_reducible exact Gro.refl_drewN _ _ _ _ | assumption | with_reducible apply Gro.more | with_reducible apply Gro.alloc | with_reducible apply Gro.drew | with_reducible apply Gro.drewN)) (by simp), (by repeat (first | with_reducible exact Gro.refl _ | with_reducible exact Gro.refl_drew _ _ _ | with_reducible exact Gro.refl_drewN _ _ _ _ | assumption | with_reducible apply Gro.more | with_reducible apply Gro.alloc | with_reducible apply Gro.drew | with_reducible apply Gro.drewN))⟩
  · have HF := Lib.hid (show entriesOf p = (entTake p p.Counts.length).foldl insE [] from by simp [entriesOf, hok])
    have hcl : p.Counts.length = p.Stacks.Nodes.length := pOk_len hok
    have HCL := Lib.hid hcl
    have hcl2 : p.Counts.length ≤ p.Stacks.Nodes.length := by omega
    have HO := Lib.hid hok
    clear hok hcl
    go_enter Tryz.func27, Tryz.ntmps27
    go_wp2_with (go_at_call 25; go_must ((with_reducible refine (profileOk_s (p := p) (Ty.up _ hx (by repeat (first | with_reducible exact Gro.refl _ | with_reducible exact Gro.refl_drew _ _ _ | with_reducible exact Gro.refl_drewN _ _ _ _ | assumption | with_reducible apply Gro.more | with_reducible apply Gro.alloc | with_reducible apply Gro.drew | with_reducible apply Gro.drewN))) (Ty.up _ hy (by repeat (first | with_reducible exact Gro.refl _ | with_reducible exact Gro.refl_drew _ _ _ | with_reducible exact Gro.refl_drewN _ _ _ _ | assumption | with_reducible apply Gro.more | with_reducible apply Gro.alloc | with_reducible apply Gro.drew | with_reducible apply Gro.drewN)))).mono ?_); rw [HO.out]); rintro e w1 ⟨rfl, os1, d1, rfl⟩)
    go_loopw [3, 5] (fun a b wr => ∃ (j : Nat) (acc : List DEntry) (A : Option Addr) (c : Nat), a = .slice A acc.length c ∧ b = .int .i64 j ∧ j ≤ p.Counts.length ∧ acc.length ≤ j ∧ Hid ((entTake p j).foldl insE [] = acc) ∧ Hid (Gro (w.alloc (.cells #[.slice A0 p.Stacks.Nodes.length c0, .slice A1 p.Counts.length c1] 29)) wr) ∧ Hid (Fresh (tEntry.sl 62) (w.alloc (.cells #[.slice A0 p.Stacks.Nodes.length c0, .slice A1 p.Counts.length c1] 29)) wr [.slice A acc.length c] acc)) (fun _ b _ => p.Counts.length - (intOf b).toNat)
    case atStart => exact ⟨0, [], _, 0, rfl, rfl, by omega, by simp, Lib.hid (by simp [entTake]), Lib.hid (by repeat (first | with_reducible exact Gro.refl _ | with_reducible exact Gro.refl_drew _ _ _ | with_reducible exact Gro.refl_drewN _ _ _ _ | assumption | with_reducible apply Gro.more | with_reducible apply Gro.alloc | with_reducible apply Gro.drew | with_reducible apply Gro.drewN)), Lib.hid (fresh_empty2 (by repeat (first | with_reducible exact Gro.refl _ | with_reducible exact Gro.refl_drew _ _ _ | with_reducible exact Gro.refl_drewN _ _ _ _ | assumption | with_reducible apply Gro.more | with_reducible apply Gro.alloc | with_reducible apply Gro.drew | with_reducible apply Gro.drewN)) (by repeat (first | with_reducible exact Gro.refl _ | with_reducible exact Gro.refl_drew _ _ _ | with_reducible exact Gro.refl_drewN _ _ _ _ | assumption | with_reducible apply Gro.more | with_reducible apply Gro.alloc | with_reducible apply Gro.drew | with_reducible apply Gro.drewN)) (by simp))⟩
    case round =>
      obtain ⟨j, acc, A, c, rfl, rfl, hj, hacc, HT, hG, hF⟩ := hrel
      obtain ⟨os, d, rfl⟩ := hG.out
      clear hG
      by_cases hlt : j < p.Counts.length
      · obtain ⟨g2, off2, n, rfl, hnk, hcn, bn⟩ := ints_at hy hlt
        have HX := Lib.hid hnk
        have HYL := Lib.hid hy
        have hgb2 := World.block_lt_of_cell? _ _ hcn
        simp only at hgb2
        clear hnk hy
        by_cases hn0 : n = 0
        · subst hn0
          go_wp2_with (fail)
          go_roundw
          case rel => exact ⟨j + 1, acc, A, c, rfl, by go_num, by omega, by omega, Lib.hid (by rw [entTake_zero HX.out]; exact HT.out), Lib.hid (by repeat (first | with_reducible exact Gro.refl _ | with_reducible exact Gro.refl_drew _ _ _ | with_reducible exact Gro.refl_drewN _ _ _ _ | assumption | with_reducible apply Gro.more | with_reducible apply Gro.alloc | with_reducible apply Gro.drew | with_reducible apply Gro.drewN)), hF⟩
          case measure => simp [intOf]; omega
        · have hnb : (n == 0) = false := by simp [hn0]
          obtain ⟨_, _, hv, hcc, hcm⟩ := sl_at hF.out.read
          injection hv with hA' _ hc'
          subst hA' hc'
          go_upto_region 7 with fail
          go_cut [6] from 11 to 65 (fun b wx => ∃ bx : Nat, b = .pointer (some ⟨bx, 0, none⟩) ∧ wx.cell? ⟨bx, 0, none⟩ = some (.string (fmtF (stackAt p.Stacks j))) ∧ wx.cell? ⟨bx, 1, none⟩ = some (.int .i64 n) ∧ Hid (Gro (gro (w.alloc (.cells #[.slice A0 p.Stacks.Nodes.length c0, .slice (some ⟨g2, off2, none⟩) p.Counts.length c1] 29)) os d) wx))
          case first =>
            have hcp0 : (gro (w.alloc (.cells #[.slice A0 p.Stacks.Nodes.length c0, .slice (some ⟨g2, off2, none⟩) p.Counts.length c1] 29)) os d).cell? ⟨w.heap.size, 0, none⟩ = some (.slice A0 p.Stacks.Nodes.length c0) := by simp [go_sem]
            have hcp1 : (gro (w.alloc (.cells #[.slice A0 p.Stacks.Nodes.length c0, .slice (some ⟨g2, off2, none⟩) p.Counts.length c1] 29)) os d).cell? ⟨w.heap.size, 1, none⟩ = some (.slice (some ⟨g2, off2, none⟩) p.Counts.length c1) := by simp [go_sem]
            have hcn2 : (gro (w.alloc (.cells #[.slice A0 p.Stacks.Nodes.length c0, .slice (some ⟨g2, off2, none⟩) p.Counts.length c1] 29)) os d).cell? ⟨g2, off2 + j, none⟩ = some (.int .i64 n) := gro_keeps (alloc_keeps hcn _) _ _
            have hwl : w.heap.size < (gro (w.alloc (.cells #[.slice A0 p.Stacks.Nodes.length c0, .slice (some ⟨g2, off2, none⟩) p.Counts.length c1] 29)) os d).heap.size := by simp; omega
            have hgl2 : g2 < (gro (w.alloc (.cells #[.slice A0 p.Stacks.Nodes.length c0, .slice (some ⟨g2, off2, none⟩) p.Counts.length c1] 29)) os d).heap.size := World.block_lt_of_cell? _ _ hcn2
            have HXR := Lib.hid (show (tNode.sl 48).R (gro (w.alloc (.cells #[.slice A0 p.Stacks.Nodes.length c0, .slice (some ⟨g2, off2, none⟩) p.Counts.length c1] 29)) os d) (gro (w.alloc (.cells #[.slice A0 p.Stacks.Nodes.length c0, .slice (some ⟨g2, off2, none⟩) p.Counts.length c1] 29)) os d).heap.size [.slice A0 p.Stacks.Nodes.length c0] p.Stacks.Nodes from Ty.up _ hx (by repeat (first | with_reducible exact Gro.refl _ | with_reducible exact Gro.refl_drew _ _ _ | with_reducible exact Gro.refl_drewN _ _ _ _ | assumption | with_reducible apply Gro.more | with_reducible apply Gro.alloc | with_reducible apply Gro.drew | with_reducible apply Gro.drewN)))
            have hjc : (j : Int) < (p.Counts.length : Int) := by omega
            have hjc2 : (0 : Int) ≤ (j : Int) := by omega
            have hj64 : I64 (j : Int) := ⟨by omega, by omega⟩
            have hsl := stackAt_len p.Stacks j
            have hsl2 : (stackAt p.Stacks j).length ≤ 1099511627776 := by omega
            clear hcn hx hF hgb2 hcc hcm HYL
            obtain ⟨W, hW, HG⟩ : ∃ W, gro (w.alloc (.cells #[.slice A0 p.Stacks.Nodes.length c0, .slice (some ⟨g2, off2, none⟩) p.Counts.length c1] 29)) os d = W ∧ Hid (Gro (gro (w.alloc (.cells #[.slice A0 p.Stacks.Nodes.length c0, .slice (some ⟨g2, off2, none⟩) p.Counts.length c1] 29)) os d) W) := ⟨_, rfl, Lib.hid (Gro.refl _)⟩
            rw [hW] at hcp0 hcp1 hcn2 hwl hgl2 HXR ⊢
            clear hW
            go_region_held3 (fun w' => w'.cell? ⟨w.heap.size, 0, none⟩ = some (.slice A0 p.Stacks.Nodes.length c0) ∧ w'.cell? ⟨w.heap.size, 1, none⟩ = some (.slice (some ⟨g2, off2, none⟩) p.Counts.length c1) ∧ w'.cell? ⟨g2, off2 + j, none⟩ = some (.int .i64 n)) ((repeat' apply And.intro) <;> (first | ((repeat (first | assumption | with_reducible refine gro_keeps ?_ _ _ | with_reducible refine alloc_keeps ?_ _ | with_reducible refine drew_keeps ?_)); done) | (simp [go_sem]; done))) (first
              | (go_at_call 49; refine (stackAt_s (t := p.Stacks) (k := j) (Ty.up _ HXR.out (by repeat (first | with_reducible exact Gro.refl _ | with_reducible exact Gro.refl_drew _ _ _ | with_reducible exact Gro.refl_drewN _ _ _ _ | assumption | with_reducible apply Gro.more | with_reducible apply Gro.alloc | with_reducible apply Gro.drew | with_reducible apply Gro.drewN))) (by omega) hj64).mono ?_; rintro e w3 ⟨A3, c3, rfl, hF3, os3, d3, rfl⟩)
              | (go_at_call 48; refine (fmtF_s (l := stackAt p.Stacks j) (Ty.up _ hF3.read (by repeat (first | with_reducible exact Gro.refl _ | with_reducible exact Gro.refl_drew _ _ _ | with_reducible exact Gro.refl_drewN _ _ _ _ | assumption | with_reducible apply Gro.more | with_reducible apply Gro.alloc | with_reducible apply Gro.drew | with_reducible apply Gro.drewN))) hsl2).mono ?_; rintro e w4 ⟨rfl, os4, d4, rfl⟩))
            all_goals go_wp2_with fail
            all_goals go_meet
            all_goals exact ⟨_, rfl, by simp [go_sem], by simp [go_sem], Lib.hid (HG.out.trans (by repeat (first | with_reducible exact Gro.refl _ | with_reducible exact Gro.refl_drew _ _ _ | with_reducible exact Gro.refl_drewN _ _ _ _ | assumption | with_reducible apply Gro.more | with_reducible apply Gro.alloc | with_reducible apply Gro.drew | with_reducible apply Gro.drewN)))⟩
          case rest =>
            obtain ⟨bx, rfl, hb0, hb1, hG2⟩ := hcut
            have hF2 := Lib.hid (hF.out.gro hG2.out)
            have HG3 := Lib.hid (show Gro (w.alloc (.cells #[.slice A0 p.Stacks.Nodes.length c0, .slice (some ⟨g2, off2, none⟩) p.Counts.length c1] 29)) wc from Gro.trans (by repeat (first | with_reducible exact Gro.refl _ | with_reducible exact Gro.refl_drew _ _ _ | with_reducible exact Gro.refl_drewN _ _ _ _ | assumption | with_reducible apply Gro.more | with_reducible apply Gro.alloc | with_reducible apply Gro.drew | with_reducible apply Gro.drewN)) hG2.out)
            have hbl := World.block_lt_of_cell? _ _ hb0
            simp only at hbl
            have hss := fmtF_size (stackAt p.Stacks j)
            have hsz : (fmtF (stackAt p.Stacks j)).size ≤ 9223372036854775807 := by have := stackAt_len p.Stacks j; omega
            clear hF hG2
            go_wp2_with (fail)
            go_loopw [7] (fun b wr => ∃ i : Nat, b = .int .i64 i ∧ i ≤ acc.length ∧ Hid (Gro wc wr) ∧ Hid (∀ t y, t < i → acc[t]? = some y → y.Stack.data.toList < (fmtF (stackAt p.Stacks j)).data.toList)) (fun b _ => acc.length - (intOf b).toNat)
            case atStart => exact ⟨0, rfl, by omega, Lib.hid (by repeat (first | with_reducible exact Gro.refl _ | with_reducible exact Gro.refl_drew _ _ _ | with_reducible exact Gro.refl_drewN _ _ _ _ | assumption | with_reducible apply Gro.more | with_reducible apply Gro.alloc | with_reducible apply Gro.drew | with_reducible apply Gro.drewN)), Lib.hid (fun t y ht _ => absurd ht (Nat.not_lt_zero _))⟩
            case round =>
              obtain ⟨i, rfl, hi, hGc, HB⟩ := hrel
              obtain ⟨osc, dc, rfl⟩ := hGc.out
              clear hGc
              by_cases hil : i < acc.length
              · obtain ⟨g3, off3, y, rfl, hgb3, hyk, hcy, hcy2, by1, by2⟩ := atEntry hF2.out.read hil
                have HY := Lib.hid hyk
                clear hyk
                have hdi : decide ((i : Int) < (acc.length : Int)) = true := by simp; omega
                cases hb : Op.bytesLess y.Stack.toList (fmtF (stackAt p.Stacks j)).toList
                · have HI0 := Lib.hid (rankE_of (acc := acc) (s := fmtF (stackAt p.Stacks j)) HB.out (fun y2 hy2 => by rw [HY.out] at hy2; cases hy2; exact bytes_nlt hb) hi)
                  have HI := Lib.hid (show insE acc ⟨fmtF (stackAt p.Stacks j), n⟩ = acc.take i ++ ⟨fmtF (stackAt p.Stacks j), n⟩ :: acc.drop i from by unfold insE; rw [HI0.out])
                  obtain ⟨hsl2, hR2⟩ := run_upto elEntry hF2.out.read (k := i) (by omega)
                  obtain ⟨B9, hsl, hR1⟩ := run_from elEntry hF2.out.read (k := i) (by omega)
                  have HR1 := Lib.hid hR1
                  have HR2 := Lib.hid hR2
                  clear hR1 hR2
                  go_wp2_with (fail)
                  go_quiet (fail)
                  go_wp2_with (fail)
                  go_region_law (first
                    | (refine step_append_cap0 rfl (.tmp 54) (.tmp 57) elEntry flatEntry (by repeat (first | with_reducible exact Gro.refl _ | with_reducible exact Gro.refl_drew _ _ _ | with_reducible exact Gro.refl_drewN _ _ _ _ | assumption | with_reducible apply Gro.more | with_reducible apply Gro.alloc | with_reducible apply Gro.drew | with_reducible apply Gro.drewN)) (by simp) (Ty.up _ HR2.out (by repeat (first | with_reducible exact Gro.refl _ | with_reducible exact Gro.refl_drew _ _ _ | with_reducible exact Gro.refl_drewN _ _ _ _ | assumption | with_reducible apply Gro.more | with_reducible apply Gro.alloc | with_reducible apply Gro.drew | with_reducible apply Gro.drewN))) rfl rfl rfl (by omega) (by omega) ?_; intro D1 e1 os1 d1 hF1)
                    | (refine step_append_fone (W0 := wc) (L := i + 1) rfl (.tmp 58) (.tmp 60) elEntry flatEntry ((hF1.gro (by repeat (first | with_reducible exact Gro.refl _ | with_reducible exact Gro.refl_drew _ _ _ | with_reducible exact Gro.refl_drewN _ _ _ _ | assumption | with_reducible apply Gro.more | with_reducible apply Gro.alloc | with_reducible apply Gro.drew | with_reducible apply Gro.drewN))).fresh (by simp <;> omega) (by simp <;> omega)) (by repeat (first | with_reducible exact Gro.refl _ | with_reducible exact Gro.refl_drew _ _ _ | with_reducible exact Gro.refl_drewN _ _ _ _ | assumption | with_reducible apply Gro.more | with_reducible apply Gro.alloc | with_reducible apply Gro.drew | with_reducible apply Gro.drewN)) (W1 := w) (B := 0) (ec := [.string (fmtF (stackAt p.Stacks j)), .int .i64 n]) (y := ⟨fmtF (stackAt p.Stacks j), n⟩) (tEntry_mkR (x := ⟨fmtF (stackAt p.Stacks j), n⟩) hsz bn) rfl rfl rfl (by intro j u hu; simpa [go_sem] using hu) rfl (by omega) (by omega) ?_; intro D2 e2 os2 d2 hF3)
                    | (refine step_append_flat (W0 := wc) (L := acc.length + 1) rfl (.tmp 61) (.tmp 64) elEntry flatEntry hF3 (by repeat (first | with_reducible exact Gro.refl _ | with_reducible exact Gro.refl_drew _ _ _ | with_reducible exact Gro.refl_drewN _ _ _ _ | assumption | with_reducible apply Gro.more | with_reducible apply Gro.alloc | with_reducible apply Gro.drew | with_reducible apply Gro.drewN)) (Ty.up _ HR1.out (by repeat (first | with_reducible exact Gro.refl _ | with_reducible exact Gro.refl_drew _ _ _ | with_reducible exact Gro.refl_drewN _ _ _ _ | assumption | with_reducible apply Gro.more | with_reducible apply Gro.alloc | with_reducible apply Gro.drew | with_reducible apply Gro.drewN))) rfl rfl rfl (by omega) (by omega) (by omega) ?_; intro D3 e3 os3 d3 hF4))
                  all_goals
                    go_wp2
                    go_roundw
                    case rel => exact ⟨j + 1, insE acc ⟨fmtF (stackAt p.Stacks j), n⟩, D3, e3, by rw [insE_len], by go_num, by omega, by rw [insE_len]; omega, Lib.hid (by rw [entTake_snoc HX.out hn0, List.foldl_append, HT.out]; rfl), Lib.hid (HG3.out.trans (by repeat (first | with_reducible exact Gro.refl _ | with_reducible exact Gro.refl_drew _ _ _ | with_reducible exact Gro.refl_drewN _ _ _ _ | assumption | with_reducible apply Gro.more | with_reducible apply Gro.alloc | with_reducible apply Gro.drew | with_reducible apply Gro.drewN))), Lib.hid (by rw [HI.out]; have := hF4.since (w0 := w.alloc (.cells #[.slice A0 p.Stacks.Nodes.length c0, .slice (some ⟨g2, off2, none⟩) p.Counts.length c1] 29)) HG3.out.size; simpa [List.append_assoc, List.length_append, Nat.min_eq_left (show i ≤ acc.length by omega), show i + (acc.length - i + 1) = acc.length + 1 by omega] using this)⟩
                    case measure => simp [intOf]; omega
                · go_wp2_with (fail)
                  go_quiet (fail)
                  go_wp2_with (fail)
                  go_roundw
                  case rel =>
                    have HN := Lib.hid (show ∀ t y, t < i + 1 → acc[t]? = some y → y.Stack.data.toList < (fmtF (stackAt p.Stacks j)).data.toList from fun t z ht hz => by
                      by_cases e : t = i
                      · subst e; rw [HY.out] at hz; cases hz; exact bytes_lt hb
                      · exact HB.out t z (by omega) hz)
                    first
                      | exact ⟨i + 1, by go_num, by omega, Lib.hid (by repeat (first | with_reducible exact Gro.refl _ | with_reducible exact Gro.refl_drew _ _ _ | with_reducible exact Gro.refl_drewN _ _ _ _ | assumption | with_reducible apply Gro.more | with_reducible apply Gro.alloc | with_reducible apply Gro.drew | with_reducible apply Gro.drewN)), HN⟩
                      | (repeat apply Exists.intro
                         exact ⟨⟨i + 1, by go_num, by omega, Lib.hid (by repeat (first | with_reducible exact Gro.refl _ | with_reducible exact Gro.refl_drew _ _ _ | with_reducible exact Gro.refl_drewN _ _ _ _ | assumption | with_reducible apply Gro.more | with_reducible apply Gro.alloc | with_reducible apply Gro.drew | with_reducible apply Gro.drewN)), HN⟩, rfl⟩)
                  case measure => simp [intOf]; omega
              · have hie : i = acc.length := by omega
                have HI0 := Lib.hid (rankE_of (acc := acc) (s := fmtF (stackAt p.Stacks j)) HB.out (fun y2 hy2 => by rw [List.getElem?_eq_none (by omega)] at hy2; cases hy2) hi)
                have HI := Lib.hid (show insE acc ⟨fmtF (stackAt p.Stacks j), n⟩ = acc.take i ++ ⟨fmtF (stackAt p.Stacks j), n⟩ :: acc.drop i from by unfold insE; rw [HI0.out])
                have hdi : decide ((i : Int) < (acc.length : Int)) = false := by simp; omega
                clear hie
                obtain ⟨hsl2, hR2⟩ := run_upto elEntry hF2.out.read (k := i) (by omega)
                obtain ⟨B9, hsl, hR1⟩ := run_from elEntry hF2.out.read (k := i) (by omega)
                have HR1 := Lib.hid hR1
                have HR2 := Lib.hid hR2
                clear hR1 hR2
                go_wp2_with (fail)
                go_quiet (fail)
                go_wp2_with (fail)
                go_region_law (first
                  | (refine step_append_cap0 rfl (.tmp 54) (.tmp 57) elEntry flatEntry (by repeat (first | with_reducible exact Gro.refl _ | with_reducible exact Gro.refl_drew _ _ _ | with_reducible exact Gro.refl_drewN _ _ _ _ | assumption | with_reducible apply Gro.more | with_reducible apply Gro.alloc | with_reducible apply Gro.drew | with_reducible apply Gro.drewN)) (by simp) (Ty.up _ HR2.out (by repeat (first | with_reducible exact Gro.refl _ | with_reducible exact Gro.refl_drew _ _ _ | with_reducible exact Gro.refl_drewN _ _ _ _ | assumption | with_reducible apply Gro.more | with_reducible apply Gro.alloc | with_reducible apply Gro.drew | with_reducible apply Gro.drewN))) rfl rfl rfl (by omega) (by omega) ?_; intro D1 e1 os1 d1 hF1)
                  | (refine step_append_fone (W0 := wc) (L := i + 1) rfl (.tmp 58) (.tmp 60) elEntry flatEntry ((hF1.gro (by repeat (first | with_reducible exact Gro.refl _ | with_reducible exact Gro.refl_drew _ _ _ | with_reducible exact Gro.refl_drewN _ _ _ _ | assumption | with_reducible apply Gro.more | with_reducible apply Gro.alloc | with_reducible apply Gro.drew | with_reducible apply Gro.drewN))).fresh (by simp <;> omega) (by simp <;> omega)) (by repeat (first | with_reducible exact Gro.refl _ | with_reducible exact Gro.refl_drew _ _ _ | with_reducible exact Gro.refl_drewN _ _ _ _ | assumption | with_reducible apply Gro.more | with_reducible apply Gro.alloc | with_reducible apply Gro.drew | with_reducible apply Gro.drewN)) (W1 := w) (B := 0) (ec := [.string (fmtF (stackAt p.Stacks j)), .int .i64 n]) (y := ⟨fmtF (stackAt p.Stacks j), n⟩) (tEntry_mkR (x := ⟨fmtF (stackAt p.Stacks j), n⟩) hsz bn) rfl rfl rfl (by intro j u hu; simpa [go_sem] using hu) rfl (by omega) (by omega) ?_; intro D2 e2 os2 d2 hF3)
                  | (refine step_append_flat (W0 := wc) (L := acc.length + 1) rfl (.tmp 61) (.tmp 64) elEntry flatEntry hF3 (by repeat (first | with_reducible exact Gro.refl _ | with_reducible exact Gro.refl_drew _ _ _ | with_reducible exact Gro.refl_drewN _ _ _ _ | assumption | with_reducible apply Gro.more | with_reducible apply Gro.alloc | with_reducible apply Gro.drew | with_reducible apply Gro.drewN)) (Ty.up _ HR1.out (by repeat (first | with_reducible exact Gro.refl _ | with_reducible exact Gro.refl_drew _ _ _ | with_reducible exact Gro.refl_drewN _ _ _ _ | assumption | with_reducible apply Gro.more | with_reducible apply Gro.alloc | with_reducible apply Gro.drew | with_reducible apply Gro.drewN))) rfl rfl rfl (by omega) (by omega) (by omega) ?_; intro D3 e3 os3 d3 hF4))
                all_goals
                  go_wp2
                  go_roundw
                  case rel => exact ⟨j + 1, insE acc ⟨fmtF (stackAt p.Stacks j), n⟩, D3, e3, by rw [insE_len], by go_num, by omega, by rw [insE_len]; omega, Lib.hid (by rw [entTake_snoc HX.out hn0, List.foldl_append, HT.out]; rfl), Lib.hid (HG3.out.trans (by repeat (first | with_reducible exact Gro.refl _ | with_reducible exact Gro.refl_drew _ _ _ | with_reducible exact Gro.refl_drewN _ _ _ _ | assumption | with_reducible apply Gro.more | with_reducible apply Gro.alloc | with_reducible apply Gro.drew | with_reducible apply Gro.drewN))), Lib.hid (by rw [HI.out]; have := hF4.since (w0 := w.alloc (.cells #[.slice A0 p.Stacks.Nodes.length c0, .slice (some ⟨g2, off2, none⟩) p.Counts.length c1] 29)) HG3.out.size; simpa [List.append_assoc, List.length_append, Nat.min_eq_left (show i ≤ acc.length by omega), show i + (acc.length - i + 1) = acc.length + 1 by omega] using this)⟩
                  case measure => simp [intOf]; omega
      · have hje : j = p.Counts.length := by omega
        subst hje
        have HQ := Lib.hid (show entriesOf p = acc from by rw [HF.out, HT.out])
        go_wp2
        go_ret
        rw [HQ.out]
        exact ⟨A, c, rfl, hF.out.since (by simp), (by repeat (first | with_reducible exact Gro.refl _ | with_reducible exact Gro.refl_drew _ _ _ | with_reducible exact Gro.refl_drewN _ _ _ _ | assumption | with_reducible apply Gro.more | with_reducible apply Gro.alloc | with_reducible apply Gro.drew | with_reducible apply Gro.drewN))⟩
end Go.Proofs.YtcomafmiclkmhaaGreatDoor
