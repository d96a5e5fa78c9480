/-
  SAMPLE, PART 4: DecodeSample of the program.
-/
import Derived.Test.YtemeenondbdioaaSample6
set_option linter.unusedVariables false
set_option linter.unusedSimpArgs false
namespace Go.Proofs.Ytemeenondbdioaa
open Go.RowKit
set_option maxRecDepth 100000 in
set_option maxHeartbeats 2000000 in
theorem decS_i (s : ByteArray) (w : World) (hs : s.size ≤ 1099511627000) : Calls Try.prog 14 #[.string s] w (RetDecS (decS s) w) := by
  have hs1 : s.size ≤ 1099511627776 := by omega
  obtain ⟨t, z, ok, hd⟩ : ∃ t z ok, decV s 0 = (t, z, ok) := ⟨_, _, _, rfl⟩
  obtain ⟨l, n, ok2, hu⟩ : ∃ l n ok2, unpI s z = (l, n, ok2) := ⟨_, _, _, rfl⟩
  have HD := Lib.hid hd
  have HU := Lib.hid hu
  have hz64 : I64 0 := ⟨by omega, by omega⟩
  have hzb : z ≤ 6 := decV_z hd
  have hz2 : I64 (z : Int) := ⟨by omega, by omega⟩
  have HS := Lib.hid (show decS s = if ok2 = true ∧ 3 ≤ l.length ∧ encS (mkS t l) = s then (mkS t l, true) else (zSample, false) from by unfold decS; rw [hd]; simp only; rw [hu])
  have hll : l.length ≤ s.size := unpI_len hu
  have HN := Lib.hid (unpI_n hu)
  have HM : Hid (ok2 = true → 3 ≤ l.length → encS (mkS t l) = s → ok = true ∧ z + n = s.size) := fun h1 h2 h3 => by
    have := decS_more (s := s) (by rw [hd]; simp only; rw [hu]; exact h1) (by rw [hd]; simp only; rw [hu]; exact h2) (by rw [hd]; simp only; rw [hu]; simp only; omega) (by rw [hd]; simp only; rw [hu]; exact h3)
    rw [hd] at this
    simp only at this
    rw [hu] at this
    exact this
  clear hd hu
  cases ok2
  · have HQ := Lib.hid (show decS s = (zSample, false) from by rw [HS.out, if_neg]; simp)
    cases ok
    all_goals
      go_enter Try.func14, Try.ntmps14
      go_wp2_with (first | (go_at_call 42; go_must ((with_reducible refine (decV_i _ _ _ hs1 hz64).mono ?_); rw [HD.out]); rintro e w1 ⟨rfl, os1, d1, rfl⟩) | (go_at_call 43; go_must ((with_reducible refine (unpI_i _ _ _ hs1 hz2).mono ?_); rw [HU.out]); rintro e w2 ⟨A, cl, rfl, hF, os2, d2, rfl⟩))
      refine bodyPost_ret (v := .tuple #[.agg #[.int .i64 0, .int .i64 0, .int .i64 0, .int .i64 0, .slice none 0 0], .bool false]) (by simp [results, Try.results14, go_sem]) rfl (ret_decS (x := zSample) HQ.out (fresh_zS _ _) (by repeat (first | with_reducible exact Gro.refl _ | with_reducible exact Gro.refl_drew _ _ _ | with_reducible exact Gro.refl_drewN _ _ _ _ | assumption | with_reducible apply Gro.more | with_reducible apply Gro.alloc | with_reducible apply Gro.drew | with_reducible apply Gro.drewN)))
  by_cases h3 : 3 ≤ l.length
  case neg =>
    have HQ := Lib.hid (show decS s = (zSample, false) from by rw [HS.out, if_neg]; omega)
    cases ok
    all_goals
      go_enter Try.func14, Try.ntmps14
      go_wp2_with (first | (go_at_call 42; go_must ((with_reducible refine (decV_i _ _ _ hs1 hz64).mono ?_); rw [HD.out]); rintro e w1 ⟨rfl, os1, d1, rfl⟩) | (go_at_call 43; go_must ((with_reducible refine (unpI_i _ _ _ hs1 hz2).mono ?_); rw [HU.out]); rintro e w2 ⟨A, cl, rfl, hF, os2, d2, rfl⟩))
      refine bodyPost_ret (v := .tuple #[.agg #[.int .i64 0, .int .i64 0, .int .i64 0, .int .i64 0, .slice none 0 0], .bool false]) (by simp [results, Try.results14, go_sem]) rfl (ret_decS (x := zSample) HQ.out (fresh_zS _ _) (by repeat (first | with_reducible exact Gro.refl _ | with_reducible exact Gro.refl_drew _ _ _ | with_reducible exact Gro.refl_drewN _ _ _ _ | assumption | with_reducible apply Gro.more | with_reducible apply Gro.alloc | with_reducible apply Gro.drew | with_reducible apply Gro.drewN)))
  obtain ⟨a, b, c, r, rfl⟩ : ∃ a b c r, l = a :: b :: c :: r := by
    match l, h3 with
    | a :: b :: c :: r, _ => exact ⟨a, b, c, r, rfl⟩
  have HC1 := HS.out
  by_cases he : encS ⟨t, ⟨a, b, c, r⟩⟩ = s
  · have HQ := Lib.hid (show decS s = (⟨t, ⟨a, b, c, r⟩⟩, true) from by rw [HC1, if_pos ⟨rfl, h3, he⟩]; rfl)
    have heb : ((encS ⟨t, ⟨a, b, c, r⟩⟩).toList == s.toList) = true := by rw [str_eqb]; simp [he]
    clear HC1 he
    go_enter Try.func14, Try.ntmps14
    go_wp2_with (first | (go_at_call 42; go_must ((with_reducible refine (decV_i _ _ _ hs1 hz64).mono ?_); rw [HD.out]); rintro e w1 ⟨rfl, os1, d1, rfl⟩) | (go_at_call 43; go_must ((with_reducible refine (unpI_i _ _ _ hs1 hz2).mono ?_); rw [HU.out]); rintro e w2 ⟨A, cl, rfl, hF, os2, d2, rfl⟩))
    obtain ⟨g, off, a', rfl, ha', hca, haI⟩ := ints_at hF.read (k := 0) (by simp)
    obtain ⟨g', off', b', hA', hb', hcb, hbI⟩ := ints_at hF.read (k := 1) (by simp)
    obtain ⟨g'', off'', c', hA'', hc', hcc, hcI⟩ := ints_at hF.read (k := 2) (by simp)
    simp only [Option.some.injEq, Addr.mk.injEq, and_true] at hA' hA''
    obtain ⟨rfl, rfl⟩ := hA'
    obtain ⟨rfl, rfl⟩ := hA''
    simp only [List.getElem?_cons_zero, List.getElem?_cons_succ, Option.some.injEq] at ha' hb' hc'
    subst ha' hb' hc'
    have htI : I64 (t : Int) := decV_t HD.out
    have haJ : I64 a := haI
    have hbJ : I64 b := hbI
    have hcJ : I64 c := hcI
    obtain ⟨A1, hsl, hR1⟩ := run_from elInt hF.read (k := 3) (by simp)
    have hsl2 : ∀ W, (Instr.sliceAt 22 (.slice (some ⟨g, off, none⟩) (r.length + 1 + 1 + 1) cl) (some (.int .i64 3)) none none).run Try.prog W = .ok (.slice A1 r.length (cl - 3)) W := hsl
    have HR1 := Lib.hid (show (intT.sl 3).R _ _ [.slice A1 r.length (cl - 3)] r from hR1)
    have hgb := World.block_lt_of_cell? _ _ hca
    simp only at hgb
    clear hsl hR1
    have hrl : r.length ≤ 1099511627000 := by simp only [List.length_cons] at hll; omega
    have hi0 : (0 : Int) < (r.length : Int) + 1 + 1 + 1 := by omega
    have hi1 : (1 : Int) < (r.length : Int) + 1 + 1 + 1 := by omega
    have hi2 : (2 : Int) < (r.length : Int) + 1 + 1 + 1 := by omega
    rw [Nat.add_zero] at hca
    go_region_held3 (fun w' => w'.cell? ⟨g, off, none⟩ = some (.int .i64 a) ∧ w'.cell? ⟨g, off + 1, none⟩ = some (.int .i64 b) ∧ w'.cell? ⟨g, off + 2, none⟩ = some (.int .i64 c)) ((repeat' apply And.intro) <;> (first | ((repeat (first | assumption | with_reducible refine gro_keeps ?_ _ _ | with_reducible refine alloc_keeps ?_ _ | with_reducible refine drew_keeps ?_)); done) | (simp [go_sem]; done))) (first
      | (refine step_append_cap0 rfl (.tmp 42) (.tmp 44) elInt flat_int (by repeat (first | with_reducible exact Gro.refl _ | with_reducible exact Gro.refl_drew _ _ _ | with_reducible exact Gro.refl_drewN _ _ _ _ | assumption | with_reducible apply Gro.more | with_reducible apply Gro.alloc | with_reducible apply Gro.drew | with_reducible apply Gro.drewN)) (by simp) (Ty.up _ HR1.out (by repeat (first | with_reducible exact Gro.refl _ | with_reducible exact Gro.refl_drew _ _ _ | with_reducible exact Gro.refl_drewN _ _ _ _ | assumption | with_reducible apply Gro.more | with_reducible apply Gro.alloc | with_reducible apply Gro.drew | with_reducible apply Gro.drewN))) rfl rfl rfl (by omega) (by omega) ?_; intro B3 c3 os3 d3 hF3))
    all_goals go_wp2_with (go_at_call 11; go_must ((with_reducible refine (encS_i (x := ⟨t, ⟨a, b, c, r⟩⟩) htI haJ hbJ hcJ ((hF3.same (by repeat (first | with_reducible exact Same.refl _ _ _ | ((with_reducible refine same_hi ?_ ?_) <;> (simp <;> omega)) | ((with_reducible refine same_gro ?_ ?_); rotate_left; (simp <;> omega)) | ((with_reducible refine same_alloc ?_ ?_); rotate_left; (simp <;> omega)) | ((with_reducible refine same_alloc_lo ?_ ?_ ?_); rotate_left; (simp <;> omega); (simp <;> omega)) | with_reducible apply same_drew_l | ((with_reducible refine Same.more ?_ ?_ _ _); rotate_left; simp <;> omega) | ((with_reducible refine Same.alloc ?_ ?_ _); rotate_left; simp <;> omega) | with_reducible apply Same.drew | with_reducible apply Same.drewN)) (by repeat (first | with_reducible exact Same.refl _ _ _ | ((with_reducible refine same_hi ?_ ?_) <;> (simp <;> omega)) | ((with_reducible refine same_gro ?_ ?_); rotate_left; (simp <;> omega)) | ((with_reducible refine same_alloc ?_ ?_); rotate_left; (simp <;> omega)) | ((with_reducible refine same_alloc_lo ?_ ?_ ?_); rotate_left; (simp <;> omega); (simp <;> omega)) | with_reducible apply same_drew_l | ((with_reducible refine Same.more ?_ ?_ _ _); rotate_left; simp <;> omega) | ((with_reducible refine Same.alloc ?_ ?_ _); rotate_left; simp <;> omega) | with_reducible apply Same.drew | with_reducible apply Same.drewN))).read) (by simp; omega)).mono ?_)); rintro e w4 ⟨rfl, os4, d4, rfl⟩)
    all_goals refine bodyPost_ret (v := .tuple #[.agg #[.int .i64 t, .int .i64 a, .int .i64 b, .int .i64 c, .slice B3 r.length c3], .bool true]) (by simp [results, Try.results14, go_sem]) rfl (ret_decS (x := ⟨t, ⟨a, b, c, r⟩⟩) HQ.out (sample_of (W0 := w) htI haJ hbJ hcJ (((hF3.same (by repeat (first | with_reducible exact Same.refl _ _ _ | ((with_reducible refine same_hi ?_ ?_) <;> (simp <;> omega)) | ((with_reducible refine same_gro ?_ ?_); rotate_left; (simp <;> omega)) | ((with_reducible refine same_alloc ?_ ?_); rotate_left; (simp <;> omega)) | ((with_reducible refine same_alloc_lo ?_ ?_ ?_); rotate_left; (simp <;> omega); (simp <;> omega)) | with_reducible apply same_drew_l | ((with_reducible refine Same.more ?_ ?_ _ _); rotate_left; simp <;> omega) | ((with_reducible refine Same.alloc ?_ ?_ _); rotate_left; simp <;> omega) | with_reducible apply Same.drew | with_reducible apply Same.drewN)) (by repeat (first | with_reducible exact Same.refl _ _ _ | ((with_reducible refine same_hi ?_ ?_) <;> (simp <;> omega)) | ((with_reducible refine same_gro ?_ ?_); rotate_left; (simp <;> omega)) | ((with_reducible refine same_alloc ?_ ?_); rotate_left; (simp <;> omega)) | ((with_reducible refine same_alloc_lo ?_ ?_ ?_); rotate_left; (simp <;> omega); (simp <;> omega)) | with_reducible apply same_drew_l | ((with_reducible refine Same.more ?_ ?_ _ _); rotate_left; simp <;> omega) | ((with_reducible refine Same.alloc ?_ ?_ _); rotate_left; simp <;> omega) | with_reducible apply Same.drew | with_reducible apply Same.drewN))).fresh (w := w) (by simp; omega) (by simp; omega)).fre) (Nat.le_refl _)) (by repeat (first | with_reducible exact Gro.refl _ | with_reducible exact Gro.refl_drew _ _ _ | with_reducible exact Gro.refl_drewN _ _ _ _ | assumption | with_reducible apply Gro.more | with_reducible apply Gro.alloc | with_reducible apply Gro.drew | with_reducible apply Gro.drewN)))
  · have HQ := Lib.hid (show decS s = (zSample, false) from by rw [HC1, if_neg]; rintro ⟨_, _, h⟩; exact he h)
    have heb : ((encS ⟨t, ⟨a, b, c, r⟩⟩).toList == s.toList) = false := by rw [str_eqb]; simp [he]
    clear HC1 he
    go_enter Try.func14, Try.ntmps14
    go_wp2_with (first | (go_at_call 42; go_must ((with_reducible refine (decV_i _ _ _ hs1 hz64).mono ?_); rw [HD.out]); rintro e w1 ⟨rfl, os1, d1, rfl⟩) | (go_at_call 43; go_must ((with_reducible refine (unpI_i _ _ _ hs1 hz2).mono ?_); rw [HU.out]); rintro e w2 ⟨A, cl, rfl, hF, os2, d2, rfl⟩))
    obtain ⟨g, off, a', rfl, ha', hca, haI⟩ := ints_at hF.read (k := 0) (by simp)
    obtain ⟨g', off', b', hA', hb', hcb, hbI⟩ := ints_at hF.read (k := 1) (by simp)
    obtain ⟨g'', off'', c', hA'', hc', hcc, hcI⟩ := ints_at hF.read (k := 2) (by simp)
    simp only [Option.some.injEq, Addr.mk.injEq, and_true] at hA' hA''
    obtain ⟨rfl, rfl⟩ := hA'
    obtain ⟨rfl, rfl⟩ := hA''
    simp only [List.getElem?_cons_zero, List.getElem?_cons_succ, Option.some.injEq] at ha' hb' hc'
    subst ha' hb' hc'
    have htI : I64 (t : Int) := decV_t HD.out
    have haJ : I64 a := haI
    have hbJ : I64 b := hbI
    have hcJ : I64 c := hcI
    obtain ⟨A1, hsl, hR1⟩ := run_from elInt hF.read (k := 3) (by simp)
    have hsl2 : ∀ W, (Instr.sliceAt 22 (.slice (some ⟨g, off, none⟩) (r.length + 1 + 1 + 1) cl) (some (.int .i64 3)) none none).run Try.prog W = .ok (.slice A1 r.length (cl - 3)) W := hsl
    have HR1 := Lib.hid (show (intT.sl 3).R _ _ [.slice A1 r.length (cl - 3)] r from hR1)
    have hgb := World.block_lt_of_cell? _ _ hca
    simp only at hgb
    clear hsl hR1
    have hrl : r.length ≤ 1099511627000 := by simp only [List.length_cons] at hll; omega
    have hi0 : (0 : Int) < (r.length : Int) + 1 + 1 + 1 := by omega
    have hi1 : (1 : Int) < (r.length : Int) + 1 + 1 + 1 := by omega
    have hi2 : (2 : Int) < (r.length : Int) + 1 + 1 + 1 := by omega
    rw [Nat.add_zero] at hca
    go_region_held3 (fun w' => w'.cell? ⟨g, off, none⟩ = some (.int .i64 a) ∧ w'.cell? ⟨g, off + 1, none⟩ = some (.int .i64 b) ∧ w'.cell? ⟨g, off + 2, none⟩ = some (.int .i64 c)) ((repeat' apply And.intro) <;> (first | ((repeat (first | assumption | with_reducible refine gro_keeps ?_ _ _ | with_reducible refine alloc_keeps ?_ _ | with_reducible refine drew_keeps ?_)); done) | (simp [go_sem]; done))) (first
      | (refine step_append_cap0 rfl (.tmp 42) (.tmp 44) elInt flat_int (by repeat (first | with_reducible exact Gro.refl _ | with_reducible exact Gro.refl_drew _ _ _ | with_reducible exact Gro.refl_drewN _ _ _ _ | assumption | with_reducible apply Gro.more | with_reducible apply Gro.alloc | with_reducible apply Gro.drew | with_reducible apply Gro.drewN)) (by simp) (Ty.up _ HR1.out (by repeat (first | with_reducible exact Gro.refl _ | with_reducible exact Gro.refl_drew _ _ _ | with_reducible exact Gro.refl_drewN _ _ _ _ | assumption | with_reducible apply Gro.more | with_reducible apply Gro.alloc | with_reducible apply Gro.drew | with_reducible apply Gro.drewN))) rfl rfl rfl (by omega) (by omega) ?_; intro B3 c3 os3 d3 hF3))
    all_goals go_wp2_with (go_at_call 11; go_must ((with_reducible refine (encS_i (x := ⟨t, ⟨a, b, c, r⟩⟩) htI haJ hbJ hcJ ((hF3.same (by repeat (first | with_reducible exact Same.refl _ _ _ | ((with_reducible refine same_hi ?_ ?_) <;> (simp <;> omega)) | ((with_reducible refine same_gro ?_ ?_); rotate_left; (simp <;> omega)) | ((with_reducible refine same_alloc ?_ ?_); rotate_left; (simp <;> omega)) | ((with_reducible refine same_alloc_lo ?_ ?_ ?_); rotate_left; (simp <;> omega); (simp <;> omega)) | with_reducible apply same_drew_l | ((with_reducible refine Same.more ?_ ?_ _ _); rotate_left; simp <;> omega) | ((with_reducible refine Same.alloc ?_ ?_ _); rotate_left; simp <;> omega) | with_reducible apply Same.drew | with_reducible apply Same.drewN)) (by repeat (first | with_reducible exact Same.refl _ _ _ | ((with_reducible refine same_hi ?_ ?_) <;> (simp <;> omega)) | ((with_reducible refine same_gro ?_ ?_); rotate_left; (simp <;> omega)) | ((with_reducible refine same_alloc ?_ ?_); rotate_left; (simp <;> omega)) | ((with_reducible refine same_alloc_lo ?_ ?_ ?_); rotate_left; (simp <;> omega); (simp <;> omega)) | with_reducible apply same_drew_l | ((with_reducible refine Same.more ?_ ?_ _ _); rotate_left; simp <;> omega) | ((with_reducible refine Same.alloc ?_ ?_ _); rotate_left; simp <;> omega) | with_reducible apply Same.drew | with_reducible apply Same.drewN))).read) (by simp; omega)).mono ?_)); rintro e w4 ⟨rfl, os4, d4, rfl⟩)
    all_goals refine bodyPost_ret (v := .tuple #[.agg #[.int .i64 0, .int .i64 0, .int .i64 0, .int .i64 0, .slice none 0 0], .bool false]) (by simp [results, Try.results14, go_sem]) rfl (ret_decS (x := zSample) HQ.out (fresh_zS _ _) (by repeat (first | with_reducible exact Gro.refl _ | with_reducible exact Gro.refl_drew _ _ _ | with_reducible exact Gro.refl_drewN _ _ _ _ | assumption | with_reducible apply Gro.more | with_reducible apply Gro.alloc | with_reducible apply Gro.drew | with_reducible apply Gro.drewN)))
end Go.Proofs.Ytemeenondbdioaa
