/-
  ENCP, PART 2: EncodeProfile of the program.
-/
import Derived.Test.YtcomafmiclkmhaaGreatDoorEncP
set_option linter.unusedVariables false
set_option linter.unusedSimpArgs false
namespace Go.Proofs.YtcomafmiclkmhaaGreatDoor
open Go.RowKit
set_option maxRecDepth 100000 in
set_option maxHeartbeats 4000000 in
theorem encP_i {p : DProfile} {w : World} {A0 A1 : Option Addr} {c0 c1 : Nat} (hx : (tNode.sl 48).R w w.heap.size [.slice A0 p.Stacks.Nodes.length c0] p.Stacks.Nodes) (hy : (intT.sl 3).R w w.heap.size [.slice A1 p.Counts.length c1] p.Counts) (hn : p.Stacks.Nodes.length ≤ 1099511627775) :
    Calls Tryz.prog 6 #[.agg #[.slice A0 p.Stacks.Nodes.length c0, .slice A1 p.Counts.length c1]] w fun e w' => e = .returned (.string (encP p)) ∧ Gro w w' := by
  cases hok : profileOk p
  · have HF := Lib.hid (show encP p = ⟨#[]⟩ from by simp [encP, hok])
    have HO := Lib.hid hok
    clear hok
    go_enter Tryz.func6, Tryz.ntmps6
    go_wp2_with (go_at_call 14; go_must ((with_reducible refine (profileOk_i (p := p) (Ty.up _ hx (by repeat (first | with_reducible exact Gro.refl _ | with_reducible exact Gro.refl_drew _ _ _ | with_reducible exact Gro.refl_drewN _ _ _ _ | assumption | with_reducible apply Gro.more | with_reducible apply Gro.alloc | with_reducible apply Gro.drew | with_reducible apply Gro.drewN))) (Ty.up _ hy (by repeat (first | with_reducible exact Gro.refl _ | with_reducible exact Gro.refl_drew _ _ _ | with_reducible exact Gro.refl_drewN _ _ _ _ | assumption | with_reducible apply Gro.more | with_reducible apply Gro.alloc | with_reducible apply Gro.drew | with_reducible apply Gro.drewN)))).mono ?_); rw [HO.out]); rintro e w1 ⟨rfl, os1, d1, rfl⟩)
    go_ret
    exact ⟨ret_str HF.out.symm, (by repeat (first | with_reducible exact Gro.refl _ | with_reducible exact Gro.refl_drew _ _ _ | with_reducible exact Gro.refl_drewN _ _ _ _ | assumption | with_reducible apply Gro.more | with_reducible apply Gro.alloc | with_reducible apply Gro.drew | with_reducible apply Gro.drewN))⟩
  · obtain ⟨ns, hns⟩ : ∃ ns, namesOf p = ns := ⟨_, rfl⟩
    have HNM := Lib.hid hns
    have HF := Lib.hid (show encP p = ⟨(headL ns ++ (encV p.Stacks.Nodes.length).data.toList ++ rowsL ns (p.Stacks.Nodes.zip p.Counts)).toArray⟩ from by unfold encP; rw [if_pos hok, hns])
    have hnl : ns.length ≤ p.Stacks.Nodes.length := by rw [← hns]; exact namesOf_len p
    have HSZ := Lib.hid (show ∀ s ∈ ns, s.size ≤ 8 from by rw [← hns]; exact fun s hs => names_size hok hs)
    have hcl : p.Counts.length = p.Stacks.Nodes.length := profileOk_len hok
    have HCL := Lib.hid hcl
    have hcl2 : p.Counts.length ≤ p.Stacks.Nodes.length := by omega
    have hcl3 : p.Stacks.Nodes.length ≤ p.Counts.length := by omega
    have HO := Lib.hid hok
    clear hok hns hcl
    go_enter Tryz.func6, Tryz.ntmps6
    go_wp2_with (first | (go_at_call 14; go_must ((with_reducible refine (profileOk_i (p := p) (Ty.up _ hx (by repeat (first | with_reducible exact Gro.refl _ | with_reducible exact Gro.refl_drew _ _ _ | with_reducible exact Gro.refl_drewN _ _ _ _ | assumption | with_reducible apply Gro.more | with_reducible apply Gro.alloc | with_reducible apply Gro.drew | with_reducible apply Gro.drewN))) (Ty.up _ hy (by repeat (first | with_reducible exact Gro.refl _ | with_reducible exact Gro.refl_drew _ _ _ | with_reducible exact Gro.refl_drewN _ _ _ _ | assumption | with_reducible apply Gro.more | with_reducible apply Gro.alloc | with_reducible apply Gro.drew | with_reducible apply Gro.drewN)))).mono ?_); rw [HO.out]); rintro e w1 ⟨rfl, os1, d1, rfl⟩) | (go_at_call 9; go_must ((with_reducible refine (namesOf_i (p := p) (Ty.up _ hx (by repeat (first | with_reducible exact Gro.refl _ | with_reducible exact Gro.refl_drew _ _ _ | with_reducible exact Gro.refl_drewN _ _ _ _ | assumption | with_reducible apply Gro.more | with_reducible apply Gro.alloc | with_reducible apply Gro.drew | with_reducible apply Gro.drewN))) (Ty.up _ hy (by repeat (first | with_reducible exact Gro.refl _ | with_reducible exact Gro.refl_drew _ _ _ | with_reducible exact Gro.refl_drewN _ _ _ _ | assumption | with_reducible apply Gro.more | with_reducible apply Gro.alloc | with_reducible apply Gro.drew | with_reducible apply Gro.drewN))) (by omega)).mono ?_); rw [HNM.out]); rintro e w2 ⟨An, cn, rfl, hFn, os2, d2, rfl⟩) | (go_at_call 15; go_must ((with_reducible refine (encV_i _ _).mono ?_)); rintro e w3 ⟨rfl, os3, d3, rfl⟩))
    go_loopw [4, 19] (fun a b wr => ∃ (i : Nat) (acc : List UInt8), a = .string ⟨acc.toArray⟩ ∧ b = .int .i64 i ∧ i ≤ ns.length ∧ acc.length ≤ 6 + 14 * i ∧ Hid (acc = headL' ns i) ∧ Hid (Gro (gro (gro (w.alloc (.cells #[.slice A0 p.Stacks.Nodes.length c0, .slice A1 p.Counts.length c1] 29)) os1 d1) os2 d2) wr)) (fun _ b _ => ns.length - (intOf b).toNat)
    case atStart => exact ⟨0, (encV ns.length).data.toList, val_str (str_of _).symm, rfl, by omega, by have := encV_llen ns.length; omega, Lib.hid (by simp [headL']), Lib.hid (by repeat (first | with_reducible exact Gro.refl _ | with_reducible exact Gro.refl_drew _ _ _ | with_reducible exact Gro.refl_drewN _ _ _ _ | assumption | with_reducible apply Gro.more | with_reducible apply Gro.alloc | with_reducible apply Gro.drew | with_reducible apply Gro.drewN))⟩
    case round =>
      obtain ⟨i, acc, rfl, rfl, hi, hacc, HT, hG⟩ := hrel
      obtain ⟨os, d, rfl⟩ := hG.out
      clear hG
      by_cases hlt : i < ns.length
      · obtain ⟨g, off, s, rfl, hsk, hcs, bs⟩ := strs_at hFn.read hlt
        have HX := Lib.hid hsk
        have hcs2 := gro_keeps hcs os d
        have hcs3 := Lib.hid hcs
        clear hcs
        have hs8 : s.size ≤ 8 := HSZ.out s (List.mem_of_getElem? hsk)
        have hz6 := packT_size s
        have hz : (⟨acc.toArray⟩ : ByteArray).size + (packT s).size ≤ 9223372036854775807 := by rw [size_of]; omega
        clear hsk
        go_wp2_with (go_at_call 16; go_must ((with_reducible refine (packT_i s _ (by omega)).mono ?_)); rintro e w3 ⟨rfl, os4, d4, rfl⟩)
        go_roundw
        case rel => exact ⟨i + 1, acc ++ (packT s).data.toList, val_str (app_list _ _), by go_num, by omega, by rw [List.length_append, llen]; omega, Lib.hid (by rw [HT.out, headL_snoc HX.out]), Lib.hid (by repeat (first | with_reducible exact Gro.refl _ | with_reducible exact Gro.refl_drew _ _ _ | with_reducible exact Gro.refl_drewN _ _ _ _ | assumption | with_reducible apply Gro.more | with_reducible apply Gro.alloc | with_reducible apply Gro.drew | with_reducible apply Gro.drewN))⟩
        case measure => simp [intOf]; omega
      · have hie : i = ns.length := by omega
        subst hie
        have hz6 := encV_size p.Counts.length
        have hz7 := encV_size p.Stacks.Nodes.length
        have hz : (⟨acc.toArray⟩ : ByteArray).size + (encV p.Counts.length).size ≤ 9223372036854775807 := by rw [size_of]; omega
        have hz2 : (⟨acc.toArray⟩ : ByteArray).size + (encV p.Stacks.Nodes.length).size ≤ 9223372036854775807 := by rw [size_of]; omega
        go_wp2_with (go_at_call 15; go_must ((with_reducible refine (encV_i _ _).mono ?_)); rintro e w3 ⟨rfl, os3, d3, rfl⟩)
        go_loopw [4, 39] (fun a b wr => ∃ (j : Nat) (acc : List UInt8), a = .string ⟨acc.toArray⟩ ∧ b = .int .i64 j ∧ j ≤ p.Stacks.Nodes.length ∧ acc.length ≤ 12 + 14 * ns.length + 24 * j ∧ Hid (acc = headL ns ++ (encV p.Stacks.Nodes.length).data.toList ++ rowsL ns ((p.Stacks.Nodes.zip p.Counts).take j)) ∧ Hid (Gro (gro (gro (w.alloc (.cells #[.slice A0 p.Stacks.Nodes.length c0, .slice A1 p.Counts.length c1] 29)) os1 d1) os2 d2) wr)) (fun _ b _ => p.Stacks.Nodes.length - (intOf b).toNat)
        case atStart => exact ⟨0, acc ++ (encV p.Stacks.Nodes.length).data.toList, val_str (app_list _ _), rfl, by omega, by rw [List.length_append, llen]; omega, Lib.hid (by (try rw [HCL.out]); rw [HT.out, headL_all]; simp [rowsL]), Lib.hid (by repeat (first | with_reducible exact Gro.refl _ | with_reducible exact Gro.refl_drew _ _ _ | with_reducible exact Gro.refl_drewN _ _ _ _ | assumption | with_reducible apply Gro.more | with_reducible apply Gro.alloc | with_reducible apply Gro.drew | with_reducible apply Gro.drewN))⟩
        case round =>
          clear HT hz hz2
          obtain ⟨j, acc, rfl, rfl, hj, hacc, HT, hG⟩ := hrel
          obtain ⟨os, d, rfl⟩ := hG.out
          clear hG
          by_cases hlt : j < p.Stacks.Nodes.length
          · obtain ⟨g, off, x, rfl, hgb, hxk, hx0, hx1, hx2, bx0, bx1, bx2⟩ := atNode hx hlt
            obtain ⟨g2, off2, n, rfl, hnk, hcn, bn⟩ := ints_at hy (show j < p.Counts.length by omega)
            have hgb2 := World.block_lt_of_cell? _ _ hcn
            simp only at hgb2
            have HX := Lib.hid (zip_at hxk hnk)
            have hpar := stacksOk_node (profileOk_stacks HO.out) hxk
            have hp1 := hpar.1
            have hp2 := hpar.2.1
            have HXL := Lib.hid hx
            have HYL := Lib.hid hy
            clear hxk hnk hx hy hpar
            have ha6 := encV_size (x.Parent + 1)
            have hb6 := encV_size (idxV ns x.Frame.Name)
            have hc6 := encV_size x.Frame.Line
            have hd6 := encV_size n
            have hjc : (j : Int) < (p.Counts.length : Int) := by omega
            have hjc2 : (0 : Int) ≤ (j : Int) := by omega
            have hap : IntKind.i64.wrap (x.Parent + 1) = x.Parent + 1 := IntWalk.i64_in _ (by omega)
            have k1 := fun w => run_string_add_sum (P := Tryz.prog) w (encV (x.Parent + 1)) (encV (idxV ns x.Frame.Name)) (by omega)
            have k2 := fun w => run_string_add_sum (P := Tryz.prog) w ((encV (x.Parent + 1)) ++ (encV (idxV ns x.Frame.Name))) (encV x.Frame.Line) (by rw [ByteArray.size_append]; omega)
            have k3 := fun w => run_string_add_sum (P := Tryz.prog) w ((encV (x.Parent + 1)) ++ (encV (idxV ns x.Frame.Name)) ++ (encV x.Frame.Line)) (encV n) (by rw [ByteArray.size_append, ByteArray.size_append]; omega)
            have k4 := fun w => run_string_add_sum (P := Tryz.prog) w ⟨acc.toArray⟩ ((encV (x.Parent + 1)) ++ (encV (idxV ns x.Frame.Name)) ++ (encV x.Frame.Line) ++ (encV n)) (by rw [ByteArray.size_append, ByteArray.size_append, ByteArray.size_append, size_of]; omega)
            have hcp : (gro (gro (gro (w.alloc (.cells #[.slice (some ⟨g, off, none⟩) p.Stacks.Nodes.length c0, .slice (some ⟨g2, off2, none⟩) p.Counts.length c1] 29)) os1 d1) os2 d2) os d).cell? ⟨w.heap.size, 1, none⟩ = some (.slice (some ⟨g2, off2, none⟩) p.Counts.length c1) := by simp [go_sem]
            have hcp0 : (gro (gro (gro (w.alloc (.cells #[.slice (some ⟨g, off, none⟩) p.Stacks.Nodes.length c0, .slice (some ⟨g2, off2, none⟩) p.Counts.length c1] 29)) os1 d1) os2 d2) os d).cell? ⟨w.heap.size, 0, none⟩ = some (.slice (some ⟨g, off, none⟩) p.Stacks.Nodes.length c0) := by simp [go_sem]
            have hcn2 : (gro (gro (gro (w.alloc (.cells #[.slice (some ⟨g, off, none⟩) p.Stacks.Nodes.length c0, .slice (some ⟨g2, off2, none⟩) p.Counts.length c1] 29)) os1 d1) os2 d2) os d).cell? ⟨g2, off2 + j, none⟩ = some (.int .i64 n) := gro_keeps (gro_keeps (gro_keeps (alloc_keeps hcn _) _ _) _ _) _ _
            have hd0 : (gro (gro (gro (w.alloc (.cells #[.slice (some ⟨g, off, none⟩) p.Stacks.Nodes.length c0, .slice (some ⟨g2, off2, none⟩) p.Counts.length c1] 29)) os1 d1) os2 d2) os d).cell? ⟨g, off + j * 3, none⟩ = some (.int .i64 x.Parent) := gro_keeps (gro_keeps (gro_keeps (alloc_keeps hx0 _) _ _) _ _) _ _
            have hd1 : (gro (gro (gro (w.alloc (.cells #[.slice (some ⟨g, off, none⟩) p.Stacks.Nodes.length c0, .slice (some ⟨g2, off2, none⟩) p.Counts.length c1] 29)) os1 d1) os2 d2) os d).cell? ⟨g, off + j * 3 + 1, none⟩ = some (.string x.Frame.Name) := gro_keeps (gro_keeps (gro_keeps (alloc_keeps hx1 _) _ _) _ _) _ _
            have hd2 : (gro (gro (gro (w.alloc (.cells #[.slice (some ⟨g, off, none⟩) p.Stacks.Nodes.length c0, .slice (some ⟨g2, off2, none⟩) p.Counts.length c1] 29)) os1 d1) os2 d2) os d).cell? ⟨g, off + j * 3 + 2, none⟩ = some (.int .i64 x.Frame.Line) := gro_keeps (gro_keeps (gro_keeps (alloc_keeps hx2 _) _ _) _ _) _ _
            have hwl : w.heap.size < (gro (gro (gro (w.alloc (.cells #[.slice (some ⟨g, off, none⟩) p.Stacks.Nodes.length c0, .slice (some ⟨g2, off2, none⟩) p.Counts.length c1] 29)) os1 d1) os2 d2) os d).heap.size := by simp; omega
            have hgl : g < (gro (gro (gro (w.alloc (.cells #[.slice (some ⟨g, off, none⟩) p.Stacks.Nodes.length c0, .slice (some ⟨g2, off2, none⟩) p.Counts.length c1] 29)) os1 d1) os2 d2) os d).heap.size := World.block_lt_of_cell? _ _ hd0
            have hgl2 : g2 < (gro (gro (gro (w.alloc (.cells #[.slice (some ⟨g, off, none⟩) p.Stacks.Nodes.length c0, .slice (some ⟨g2, off2, none⟩) p.Counts.length c1] 29)) os1 d1) os2 d2) os d).heap.size := World.block_lt_of_cell? _ _ hcn2
            have HNR := Lib.hid (show (strT.sl 9).R (gro (gro (gro (w.alloc (.cells #[.slice (some ⟨g, off, none⟩) p.Stacks.Nodes.length c0, .slice (some ⟨g2, off2, none⟩) p.Counts.length c1] 29)) os1 d1) os2 d2) os d) (gro (gro (gro (w.alloc (.cells #[.slice (some ⟨g, off, none⟩) p.Stacks.Nodes.length c0, .slice (some ⟨g2, off2, none⟩) p.Counts.length c1] 29)) os1 d1) os2 d2) os d).heap.size [.slice An ns.length cn] ns from Ty.up _ hFn.read (by repeat (first | with_reducible exact Gro.refl _ | with_reducible exact Gro.refl_drew _ _ _ | with_reducible exact Gro.refl_drewN _ _ _ _ | assumption | with_reducible apply Gro.more | with_reducible apply Gro.alloc | with_reducible apply Gro.drew | with_reducible apply Gro.drewN)))
            have HG := Lib.hid (show Gro (gro (gro (w.alloc (.cells #[.slice (some ⟨g, off, none⟩) p.Stacks.Nodes.length c0, .slice (some ⟨g2, off2, none⟩) p.Counts.length c1] 29)) os1 d1) os2 d2) (gro (gro (gro (w.alloc (.cells #[.slice (some ⟨g, off, none⟩) p.Stacks.Nodes.length c0, .slice (some ⟨g2, off2, none⟩) p.Counts.length c1] 29)) os1 d1) os2 d2) os d) from (by repeat (first | with_reducible exact Gro.refl _ | with_reducible exact Gro.refl_drew _ _ _ | with_reducible exact Gro.refl_drewN _ _ _ _ | assumption | with_reducible apply Gro.more | with_reducible apply Gro.alloc | with_reducible apply Gro.drew | with_reducible apply Gro.drewN)))
            clear hx0 hx1 hx2 hcn hgb hgb2
            generalize gro (gro (gro (w.alloc (.cells #[.slice (some ⟨g, off, none⟩) p.Stacks.Nodes.length c0, .slice (some ⟨g2, off2, none⟩) p.Counts.length c1] 29)) os1 d1) os2 d2) os d = W at hcp hcp0 hcn2 hd0 hd1 hd2 hwl hgl hgl2 HNR HG ⊢
            go_wp2_with (fail)
            go_region_held3 (fun w' => w'.cell? ⟨W.heap.size, 0, none⟩ = some (.int .i64 x.Parent) ∧ w'.cell? ⟨W.heap.size, 1, none⟩ = some (.string x.Frame.Name) ∧ w'.cell? ⟨W.heap.size, 2, none⟩ = some (.int .i64 x.Frame.Line) ∧ w'.cell? ⟨w.heap.size, 1, none⟩ = some (.slice (some ⟨g2, off2, none⟩) p.Counts.length c1) ∧ w'.cell? ⟨g2, off2 + j, none⟩ = some (.int .i64 n)) ((repeat' apply And.intro) <;> (first | ((repeat (first | assumption | with_reducible refine gro_keeps ?_ _ _ | with_reducible refine alloc_keeps ?_ _ | with_reducible refine drew_keeps ?_)); done) | (simp [go_sem]; done))) (first
              | (go_at_call 15; refine (encV_i _ _).mono ?_; rintro e w3 ⟨rfl, os3, d3, rfl⟩)
              | (go_at_call 17; refine (idx_i (xs := ns) (s := x.Frame.Name) (Ty.up _ HNR.out (by repeat (first | with_reducible exact Gro.refl _ | with_reducible exact Gro.refl_drew _ _ _ | with_reducible exact Gro.refl_drewN _ _ _ _ | assumption | with_reducible apply Gro.more | with_reducible apply Gro.alloc | with_reducible apply Gro.drew | with_reducible apply Gro.drewN))) (by omega)).mono ?_; rintro e w4 ⟨rfl, os5, d5, rfl⟩))
            all_goals go_wp2
            all_goals go_roundw
            all_goals first
              | (case rel => exact ⟨j + 1, acc ++ ((encV (x.Parent + 1)).data.toList ++ ((encV (idxV ns x.Frame.Name)).data.toList ++ ((encV x.Frame.Line).data.toList ++ (encV n).data.toList))), val_str (by rw [app_list]; simp [ByteArray.data_append, List.append_assoc]), by go_num, by omega, by simp only [List.length_append, llen]; omega, Lib.hid (by rw [HT.out, rowsL_snoc HX.out]; simp [rowB, List.append_assoc]), Lib.hid (HG.out.trans (by repeat (first | with_reducible exact Gro.refl _ | with_reducible exact Gro.refl_drew _ _ _ | with_reducible exact Gro.refl_drewN _ _ _ _ | assumption | with_reducible apply Gro.more | with_reducible apply Gro.alloc | with_reducible apply Gro.drew | with_reducible apply Gro.drewN)))⟩)
              | (simp [intOf]; omega)
          · have hje : j = p.Stacks.Nodes.length := by omega
            subst hje
            have HQ := Lib.hid (show encP p = ⟨acc.toArray⟩ from by rw [HF.out, HT.out, List.take_of_length_le (by rw [List.length_zip]; omega)])
            go_wp2
            go_ret
            exact ⟨ret_str HQ.out.symm, (by repeat (first | with_reducible exact Gro.refl _ | with_reducible exact Gro.refl_drew _ _ _ | with_reducible exact Gro.refl_drewN _ _ _ _ | assumption | with_reducible apply Gro.more | with_reducible apply Gro.alloc | with_reducible apply Gro.drew | with_reducible apply Gro.drewN))⟩
end Go.Proofs.YtcomafmiclkmhaaGreatDoor
