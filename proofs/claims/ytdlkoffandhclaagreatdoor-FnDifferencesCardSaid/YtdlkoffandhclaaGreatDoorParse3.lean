/-
  PARSE, PART 3: ParseFrames of the program; strings.Split and strings.Cut at one byte.
-/
import Derived.Test.YtdlkoffandhclaaGreatDoorParse2
import Derived.Test.YtdlkoffandhclaaGreatDoorShelf
set_option linter.unusedVariables false
set_option linter.unusedSimpArgs false
namespace Go.Proofs.YtdlkoffandhclaaGreatDoor
open Go.RowKit
theorem rows_of_strs {w : World} : ∀ {xs : List ByteArray}, (∀ x ∈ xs, x.size ≤ 9223372036854775807) → Rows strT w (xs.map Value.string) xs []
  | [], _ => ⟨rfl, rfl⟩
  | x :: xs, h => ⟨[.string x], xs.map Value.string, [], [], rfl, rfl, ⟨rfl, h x List.mem_cons_self, rfl⟩, rows_of_strs (fun y hy => h y (List.mem_cons_of_mem _ hy))⟩
theorem Gro.cell {a b : World} (h : Gro a b) {p : Addr} {v : Value} (hp : a.cell? p = some v) : b.cell? p = some v := by
  obtain ⟨os, d, rfl⟩ := h
  exact gro_keeps hp os d
theorem split59_i (s : ByteArray) {m : Int} {w : World} (hs : s.size ≤ 1073741824) (hm : w.cell? ⟨0, 0, none⟩ = some (.int .i64 m)) :
    Calls Tryz.prog 88 #[.string s, .string ⟨#[59]⟩] w (RetSl strT 9 (strs (cutA 59 [] s.data.toList)) w) := by
  have hl := Lib.splitB_all (⟨#[59]⟩ : ByteArray) (show 1 ≤ (1 : Nat) from Nat.le_refl _) 0 _ s rfl
  refine (Tryz.strings_Split s ⟨#[59]⟩ m w (by omega) hm (show 1 ≤ (1 : Nat) from Nat.le_refl _)).mono ?_
  rintro e w' ⟨rfl, rfl⟩
  rw [← hl, split_cut]
  have hc := cutA_len (c := 59) (l := s.data.toList) (cur := [])
  rw [dlen] at hc
  refine ⟨_, _, rfl, ⟨[w.heap.size], ?_, by simp, fun b hb => by simp at hb; omega⟩, (by repeat (first | with_reducible exact Gro.refl _ | with_reducible exact Gro.refl_drew _ _ _ | with_reducible exact Gro.refl_drewN _ _ _ _ | assumption | with_reducible apply Gro.more | with_reducible apply Gro.alloc | with_reducible apply Gro.drew | with_reducible apply Gro.drewN))⟩
  refine own_made (heap_alloc_new w _) (rows_of_strs fun x hx => ?_) (by rw [strs_len]; omega)
  obtain ⟨l, hl, rfl⟩ := List.mem_map.1 hx
  have := cutA_piece hl
  rw [dlen] at this
  rw [szl]
  simp only [List.length_nil] at this
  omega
theorem cut58_i (s : ByteArray) {m : Int} {w : World} (hs : s.size ≤ 1073741824) (hm : w.cell? ⟨0, 0, none⟩ = some (.int .i64 m)) :
    Calls Tryz.prog 89 #[.string s, .string ⟨#[58]⟩] w fun e w' => (∃ a b c, Hid (a.data.toList = (Lib.cut s.data.toList [58]).1 ∧ b.data.toList = (Lib.cut s.data.toList [58]).2.1) ∧ a.size ≤ s.size ∧ b.size ≤ s.size ∧ e = .returned (.tuple #[.string a, .string b, .bool c])) ∧ Gro w w' := by
  refine (Tryz.strings_Cut s ⟨#[58]⟩ m w (by omega) hm).mono ?_
  rintro e w' ⟨rfl, n, rfl⟩
  have h1 : (Lib.cut s.data.toList [58]).1.length ≤ s.size := by
    rw [← dlen]; unfold Lib.cut; split <;> simp <;> omega
  have h2 : (Lib.cut s.data.toList [58]).2.1.length ≤ s.size := by
    rw [← dlen]; unfold Lib.cut; split <;> simp <;> omega
  exact ⟨⟨_, _, _, Lib.hid ⟨rfl, rfl⟩, by rw [szl]; exact h1, by rw [szl]; exact h2, rfl⟩, (by repeat (first | with_reducible exact Gro.refl _ | with_reducible exact Gro.refl_drew _ _ _ | with_reducible exact Gro.refl_drewN _ _ _ _ | assumption | with_reducible apply Gro.more | with_reducible apply Gro.alloc | with_reducible apply Gro.drew | with_reducible apply Gro.drewN))⟩
set_option maxRecDepth 100000 in
set_option maxHeartbeats 4000000 in
theorem parseF_i (s : ByteArray) {m : Int} {w : World} (hs : s.size ≤ 1073741824) (hm : w.cell? ⟨0, 0, none⟩ = some (.int .i64 m)) : Calls Tryz.prog 56 #[.string s] w (RetParse (parseR s) w) := by
  have HM := Lib.hid hm
  clear hm
  go_enter Tryz.func56, Tryz.ntmps56
  go_wp2_with (go_at_call 88; go_must ((with_reducible refine (split59_i s (by omega) (Gro.cell (by repeat (first | with_reducible exact Gro.refl _ | with_reducible exact Gro.refl_drew _ _ _ | with_reducible exact Gro.refl_drewN _ _ _ _ | assumption | with_reducible apply Gro.more | with_reducible apply Gro.alloc | with_reducible apply Gro.drew | with_reducible apply Gro.drewN)) HM.out)).mono ?_)); rintro e w1 ⟨A1, c1, rfl, hF1, os1, d1, rfl⟩)
  obtain ⟨Q, hQ⟩ : ∃ Q, strs (cutA 59 [] s.data.toList) = Q := ⟨_, rfl⟩
  have hQl : Q.length ≤ s.size + 1 := by rw [← hQ, strs_len]; have := cutA_len (c := 59) (l := s.data.toList) (cur := []); rw [dlen] at this; exact this
  have HQ := Lib.hid hQ
  rw [hQ] at hF1 ⊢
  clear hQ
  obtain ⟨_, _, hv, hcc, hcm⟩ := sl_at hF1.read
  injection hv with hA' _ hc'
  subst hA' hc'
  have HF1 := Lib.hid hF1
  clear hF1
  go_loopw [4, 16] (fun a b wr => ∃ (j : Nat) (acc : List DFrame) (A : Option Addr) (c : Nat), a = .slice A acc.length c ∧ b = .int .i64 j ∧ j ≤ Q.length ∧ acc.length ≤ j ∧ Hid (parseL ((cutA 59 [] s.data.toList).drop j) acc = parseL (cutA 59 [] s.data.toList) []) ∧ Hid (Gro (gro (w.alloc (.cells #[] 90)) os1 d1) wr) ∧ Hid (EmpFr tFrame 90 (gro (w.alloc (.cells #[] 90)) os1 d1) w.heap.size wr A acc.length c acc)) (fun _ b _ => Q.length - (intOf b).toNat)
  case atStart => exact ⟨0, [], _, 0, rfl, rfl, by omega, by simp, Lib.hid (by simp), Lib.hid (by repeat (first | with_reducible exact Gro.refl _ | with_reducible exact Gro.refl_drew _ _ _ | with_reducible exact Gro.refl_drewN _ _ _ _ | assumption | with_reducible apply Gro.more | with_reducible apply Gro.alloc | with_reducible apply Gro.drew | with_reducible apply Gro.drewN)), Lib.hid (EmpFr.start (by repeat (first | with_reducible exact Gro.refl _ | with_reducible exact Gro.refl_drew _ _ _ | with_reducible exact Gro.refl_drewN _ _ _ _ | assumption | with_reducible apply Gro.more | with_reducible apply Gro.alloc | with_reducible apply Gro.drew | with_reducible apply Gro.drewN)) (by simp))⟩
  case round =>
    obtain ⟨j, acc, A, c, rfl, rfl, hj, hacc, HT, hG, hF⟩ := hrel
    obtain ⟨os, d, rfl⟩ := hG.out
    clear hG
    by_cases hlt : j < Q.length
    · obtain ⟨g, off, x, rfl, hxk, hcx, bx⟩ := strs_at HF1.out.read hlt
      have HX := Lib.hid (strs_get (l := cutA 59 [] s.data.toList) (by rw [HQ.out]; exact hxk))
      have hxs : x.size ≤ 1073741824 := by
        have h1 := cutA_piece (List.mem_of_getElem? HX.out)
        rw [dlen, dlen] at h1
        simp only [List.length_nil] at h1
        omega
      have HD := Lib.hid (drop_at HX.out)
      clear hxk
      have hcx2 := gro_keeps hcx os d
      go_wp2_with (go_at_call 89; go_must ((with_reducible refine (cut58_i x hxs (Gro.cell (by repeat (first | with_reducible exact Gro.refl _ | with_reducible exact Gro.refl_drew _ _ _ | with_reducible exact Gro.refl_drewN _ _ _ _ | assumption | with_reducible apply Gro.more | with_reducible apply Gro.alloc | with_reducible apply Gro.drew | with_reducible apply Gro.drewN)) HM.out)).mono ?_)); rintro e w2 ⟨⟨a, b, ok0, HAB, ha, hb, rfl⟩, os2, d2, rfl⟩)
      have HP0 := Lib.hid (show parsePart x.data.toList = (parseU b.data.toList).map fun (n : Nat) => (⟨a, (n : Int)⟩ : DFrame) from by
        rw [part_cut, ← HAB.out.1, ← HAB.out.2])
      cases hu : parseU b.data.toList with
      | none =>
        have HU := Lib.hid (parseUo_none hu)
        have HP := Lib.hid (parseR_bad (s := s) (by rw [← HT.out, HD.out, parseL_none (by rw [HP0.out, hu]; rfl)]))
        clear hu
        go_wp2_with (go_at_call 90; go_must ((with_reducible refine (parseU_i b _ (by omega)).mono ?_)); rw [HU.out]; rintro e w3 ⟨rfl, os3, d3, rfl⟩)
        go_ret2
        rw [HP.out]
        exact ⟨none, 0, rfl, fresh_nil _ _, (by repeat (first | with_reducible exact Gro.refl _ | with_reducible exact Gro.refl_drew _ _ _ | with_reducible exact Gro.refl_drewN _ _ _ _ | assumption | with_reducible apply Gro.more | with_reducible apply Gro.alloc | with_reducible apply Gro.drew | with_reducible apply Gro.drewN))⟩
      | some n =>
        have HU := Lib.hid (parseUo_some hu)
        have hn := parseU_le hu
        have HP := Lib.hid (show parseL ((cutA 59 [] s.data.toList).drop (j + 1)) (acc ++ [⟨a, n⟩]) = parseL (cutA 59 [] s.data.toList) [] from by
          rw [← HT.out, HD.out]
          refine (parseL_some ?_).symm
          rw [HP0.out, hu]
          rfl)
        clear hu
        go_wp2_with (first
          | (go_at_call 90; go_must ((with_reducible refine (parseU_i b _ (by omega)).mono ?_)); rw [HU.out]; rintro e w3 ⟨rfl, os3, d3, rfl⟩)
          | (at_builtin; go_must (refine wpList_append_eone (W0 := (gro (w.alloc (.cells #[] 90)) os1 d1)) (L := acc.length + 1) rfl (.tmp 33) (.tmp 37) elFrame flatFrame (hF.out.gro (by repeat (first | with_reducible exact Gro.refl _ | with_reducible exact Gro.refl_drew _ _ _ | with_reducible exact Gro.refl_drewN _ _ _ _ | assumption | with_reducible apply Gro.more | with_reducible apply Gro.alloc | with_reducible apply Gro.drew | with_reducible apply Gro.drewN))) (by repeat (first | with_reducible exact Gro.refl _ | with_reducible exact Gro.refl_drew _ _ _ | with_reducible exact Gro.refl_drewN _ _ _ _ | assumption | with_reducible apply Gro.more | with_reducible apply Gro.alloc | with_reducible apply Gro.drew | with_reducible apply Gro.drewN)) (W1 := w) (B := 0) (ec := [.string a, .int .i64 n]) (y := ⟨a, n⟩) (tFrame_mkR (x := ⟨a, n⟩) (by show a.size ≤ _; omega) (show I64 (n : Int) from ⟨by omega, by omega⟩)) rfl rfl rfl (by simp) (by intro j u hu; simpa [go_sem] using hu) rfl (by omega) (by omega) ?_); intro D2 e2 os4 d4 hF4))
        go_roundw
        case rel => exact ⟨j + 1, acc ++ [⟨a, n⟩], D2, e2, by simp, by go_num, by omega, by simp; omega, HP, Lib.hid (by repeat (first | with_reducible exact Gro.refl _ | with_reducible exact Gro.refl_drew _ _ _ | with_reducible exact Gro.refl_drewN _ _ _ _ | assumption | with_reducible apply Gro.more | with_reducible apply Gro.alloc | with_reducible apply Gro.drew | with_reducible apply Gro.drewN)), Lib.hid (.inr (by simpa using hF4))⟩
        case measure => simp [intOf]; omega
    · have hje : j = Q.length := by omega
      subst hje
      have HE := Lib.hid (show parseL (cutA 59 [] s.data.toList) [] = some acc from by
        rw [← HT.out, List.drop_of_length_le (by rw [← strs_len, HQ.out]; omega)]
        rfl)
      by_cases hz : s.size = 0
      · have HP := Lib.hid (parseR_no HE.out (.inl hz))
        have hsb := emp_yes hz
        go_wp2_with (fail)
        go_ret2
        rw [HP.out]
        exact ⟨none, 0, rfl, fresh_nil _ _, (by repeat (first | with_reducible exact Gro.refl _ | with_reducible exact Gro.refl_drew _ _ _ | with_reducible exact Gro.refl_drewN _ _ _ _ | assumption | with_reducible apply Gro.more | with_reducible apply Gro.alloc | with_reducible apply Gro.drew | with_reducible apply Gro.drewN))⟩
      · have hsb := emp_no hz
        by_cases hf : fmtF acc = s
        · have HP := Lib.hid (parseR_yes HE.out hz hf)
          have hsc : ((fmtF acc).toList == s.toList) = true := by rw [str_eqb]; simp [hf]
          have HF9 := Lib.hid hf
          clear hf
          go_wp2_with (go_at_call 51; go_must ((with_reducible refine (fmtF_i (l := acc) (Ty.up _ (hF.out.fresh (w := w) (by omega) (by simp; omega)).read (by repeat (first | with_reducible exact Gro.refl _ | with_reducible exact Gro.refl_drew _ _ _ | with_reducible exact Gro.refl_drewN _ _ _ _ | assumption | with_reducible apply Gro.more | with_reducible apply Gro.alloc | with_reducible apply Gro.drew | with_reducible apply Gro.drewN))) (by omega)).mono ?_)); rintro e w2 ⟨rfl, os2, d2, rfl⟩)
          go_ret2
          rw [HP.out]
          exact ⟨A, c, rfl, (hF.out.fresh (w := w) (by omega) (by simp; omega)).gro (by repeat (first | with_reducible exact Gro.refl _ | with_reducible exact Gro.refl_drew _ _ _ | with_reducible exact Gro.refl_drewN _ _ _ _ | assumption | with_reducible apply Gro.more | with_reducible apply Gro.alloc | with_reducible apply Gro.drew | with_reducible apply Gro.drewN)), (by repeat (first | with_reducible exact Gro.refl _ | with_reducible exact Gro.refl_drew _ _ _ | with_reducible exact Gro.refl_drewN _ _ _ _ | assumption | with_reducible apply Gro.more | with_reducible apply Gro.alloc | with_reducible apply Gro.drew | with_reducible apply Gro.drewN))⟩
        · have HP := Lib.hid (parseR_no HE.out (.inr hf))
          have hsc : ((fmtF acc).toList == s.toList) = false := by rw [str_eqb]; simp [hf]
          clear hf
          go_wp2_with (go_at_call 51; go_must ((with_reducible refine (fmtF_i (l := acc) (Ty.up _ (hF.out.fresh (w := w) (by omega) (by simp; omega)).read (by repeat (first | with_reducible exact Gro.refl _ | with_reducible exact Gro.refl_drew _ _ _ | with_reducible exact Gro.refl_drewN _ _ _ _ | assumption | with_reducible apply Gro.more | with_reducible apply Gro.alloc | with_reducible apply Gro.drew | with_reducible apply Gro.drewN))) (by omega)).mono ?_)); rintro e w2 ⟨rfl, os2, d2, rfl⟩)
          go_ret2
          rw [HP.out]
          exact ⟨none, 0, rfl, fresh_nil _ _, (by repeat (first | with_reducible exact Gro.refl _ | with_reducible exact Gro.refl_drew _ _ _ | with_reducible exact Gro.refl_drewN _ _ _ _ | assumption | with_reducible apply Gro.more | with_reducible apply Gro.alloc | with_reducible apply Gro.drew | with_reducible apply Gro.drewN))⟩
end Go.Proofs.YtdlkoffandhclaaGreatDoor
