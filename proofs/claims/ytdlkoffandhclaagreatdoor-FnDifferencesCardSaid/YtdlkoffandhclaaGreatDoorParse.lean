/-
  PARSE: the reference's cutting at a byte, ParseUint of the program and of the reference.
-/
import Derived.Test.YtdlkoffandhclaaGreatDoorParseLaw
set_option linter.unusedVariables false
set_option linter.unusedSimpArgs false
namespace Go.Proofs.YtdlkoffandhclaaGreatDoor
open Go.RowKit
theorem val_int {a b : Int} (h : a = b) : Value.int .i64 a = .int .i64 b := by rw [h]
theorem isDig_lo {b : UInt8} (h : (b.toNat : Int) < 48) : isDig b = false := by simp [isDig]; omega
theorem isDig_hi {b : UInt8} (h : 57 < (b.toNat : Int)) : isDig b = false := by simp [isDig]; omega
theorem isDig_yes {b : UInt8} (h1 : ¬ (b.toNat : Int) < 48) (h2 : ¬ 57 < (b.toNat : Int)) : isDig b = true := by simp [isDig]; omega
def parseUo (s : ByteArray) : Nat × Bool := match parseU s.data.toList with
  | some n => (n, true)
  | none => (0, false)
theorem parseUo_none {s : ByteArray} (h : parseU s.data.toList = none) : parseUo s = (0, false) := by unfold parseUo; rw [h]
theorem parseUo_some {s : ByteArray} {n : Nat} (h : parseU s.data.toList = some n) : parseUo s = (n, true) := by unfold parseUo; rw [h]
set_option maxRecDepth 100000 in
set_option maxHeartbeats 2000000 in
theorem parseU_s (s : ByteArray) (w : World) (hs : s.size ≤ 9223372036854775807) : Calls Tryz.prog 94 #[.string s] w fun e w' => e = .returned (.tuple #[.int .i64 (parseUo s).1, .bool (parseUo s).2]) ∧ Gro w w' := by
  by_cases h10 : 10 < s.size
  · have HR := Lib.hid (parseUo_none (s := s) (parseU_long (by rw [dlen]; exact h10)))
    go_enter Tryz.func94, Tryz.ntmps94
    go_wp2_with (fail)
    go_ret2
    rw [HR.out]
    exact ⟨rfl, (by repeat (first | with_reducible exact Gro.refl _ | with_reducible exact Gro.refl_drew _ _ _ | with_reducible exact Gro.refl_drewN _ _ _ _ | assumption | with_reducible apply Gro.more | with_reducible apply Gro.alloc | with_reducible apply Gro.drew | with_reducible apply Gro.drewN))⟩
  · go_enter Tryz.func94, Tryz.ntmps94
    go_wp2_with (fail)
    go_loop [4, 5] (fun a i => ∃ k : Nat, k ≤ s.size ∧ i = .int .i64 k ∧ a = .int .i64 (valU (s.data.toList.take k)) ∧ Hid ((s.data.toList.take k).all isDig = true)) (fun _ i => s.size - (intOf i).toNat)
    case atStart => exact ⟨0, Nat.zero_le _, rfl, by simp [valU], Lib.hid (by simp)⟩
    case round =>
      obtain ⟨k, hk, rfl, rfl, ha⟩ := hrel
      by_cases hlt : k < s.size
      · have HX := Lib.hid (bytes_get s k hlt)
        have HV := Lib.hid (valU_take HX.out)
        have hv := valU_lt10 (l := s.data.toList.take k) (by simp; omega) ha.out
        have hb256 : s[k].toNat < 256 := UInt8.toNat_lt _
        generalize hvv : valU (s.data.toList.take k) = v at HV hv ⊢
        clear hvv
        by_cases h1 : (s[k].toNat : Int) < 48
        · have HR := Lib.hid (parseUo_none (s := s) (parseU_dig HX.out (isDig_lo h1)))
          go_wp2
          go_ret2
          rw [HR.out]
          exact ⟨rfl, (by repeat (first | with_reducible exact Gro.refl _ | with_reducible exact Gro.refl_drew _ _ _ | with_reducible exact Gro.refl_drewN _ _ _ _ | assumption | with_reducible apply Gro.more | with_reducible apply Gro.alloc | with_reducible apply Gro.drew | with_reducible apply Gro.drewN))⟩
        · by_cases h2 : 57 < (s[k].toNat : Int)
          · have HR := Lib.hid (parseUo_none (s := s) (parseU_dig HX.out (isDig_hi h2)))
            go_wp2
            go_ret2
            rw [HR.out]
            exact ⟨rfl, (by repeat (first | with_reducible exact Gro.refl _ | with_reducible exact Gro.refl_drew _ _ _ | with_reducible exact Gro.refl_drewN _ _ _ _ | assumption | with_reducible apply Gro.more | with_reducible apply Gro.alloc | with_reducible apply Gro.drew | with_reducible apply Gro.drewN))⟩
          · go_wp2
            go_round
            case rel => exact ⟨k + 1, by omega, by go_num, val_int (by rw [HV.out]; omega), Lib.hid (all_snoc HX.out ha.out (isDig_yes h1 h2))⟩
            case measure => simp [intOf]; omega
      · have hje : k = s.size := by omega
        subst hje
        have HA := Lib.hid (show s.data.toList.take s.size = s.data.toList from by rw [← dlen, List.take_length])
        have ha2 := ha.out
        rw [HA.out] at ha2 ⊢
        have hv := valU_lt10 (l := s.data.toList) (by rw [dlen]; omega) ha2
        have HD := Lib.hid ha2
        clear ha2 ha
        have HE := Lib.hid (fun (h : valU s.data.toList ≤ 1000000000) (h4 : Lib.decDigits (valU s.data.toList) = s.data.toList) => parseUo_some (parseU_ok (by rw [dlen]; omega) HD.out h h4))
        have HB := Lib.hid (fun (h : 1000000000 < valU s.data.toList) => parseUo_none (parseU_big h))
        have HN := Lib.hid (fun (h : Lib.decDigits (valU s.data.toList) ≠ s.data.toList) => parseUo_none (parseU_dec h))
        have HS := Lib.hid (show (⟨s.data.toList.toArray⟩ : ByteArray) = s from by simp)
        generalize valU s.data.toList = v at HE HB HN hv ⊢
        by_cases hb : 1000000000 < v
        · have HR := Lib.hid (HB.out hb)
          go_wp2
          go_ret2
          rw [HR.out]
          exact ⟨rfl, (by repeat (first | with_reducible exact Gro.refl _ | with_reducible exact Gro.refl_drew _ _ _ | with_reducible exact Gro.refl_drewN _ _ _ _ | assumption | with_reducible apply Gro.more | with_reducible apply Gro.alloc | with_reducible apply Gro.drew | with_reducible apply Gro.drewN))⟩
        · by_cases hd : Lib.decDigits v = s.data.toList
          · have HR := Lib.hid (HE.out (by omega) hd)
            have hsb : (Lib.decDigits v == s.toList) = true := by rw [ByteArray.toList_eq]; exact beq_iff_eq.2 hd
            go_wp2_with (go_at_call 104; go_must ((with_reducible refine (fmtInt_s (v : Int) (by omega) (by omega) _).mono ?_)); rintro e w1 ⟨rfl, os1, d1, rfl⟩)
            go_ret2
            rw [HR.out]
            exact ⟨rfl, (by repeat (first | with_reducible exact Gro.refl _ | with_reducible exact Gro.refl_drew _ _ _ | with_reducible exact Gro.refl_drewN _ _ _ _ | assumption | with_reducible apply Gro.more | with_reducible apply Gro.alloc | with_reducible apply Gro.drew | with_reducible apply Gro.drewN))⟩
          · have HR := Lib.hid (HN.out hd)
            have hsb : (Lib.decDigits v == s.toList) = false := by rw [ByteArray.toList_eq]; exact beq_eq_false_iff_ne.2 hd
            go_wp2_with (go_at_call 104; go_must ((with_reducible refine (fmtInt_s (v : Int) (by omega) (by omega) _).mono ?_)); rintro e w1 ⟨rfl, os1, d1, rfl⟩)
            go_ret2
            rw [HR.out]
            exact ⟨rfl, (by repeat (first | with_reducible exact Gro.refl _ | with_reducible exact Gro.refl_drew _ _ _ | with_reducible exact Gro.refl_drewN _ _ _ _ | assumption | with_reducible apply Gro.more | with_reducible apply Gro.alloc | with_reducible apply Gro.drew | with_reducible apply Gro.drewN))⟩
theorem head_get {s : ByteArray} (h : 0 < s.size) : s.data.toList.head? = some s[0] := by
  rw [List.head?_eq_getElem?, bytes_get s 0 h]
set_option maxRecDepth 100000 in
set_option maxHeartbeats 2000000 in
theorem parseU_i (s : ByteArray) (w : World) (hs : s.size ≤ 9223372036854775807) : Calls Tryz.prog 90 #[.string s] w fun e w' => e = .returned (.tuple #[.int .i64 (parseUo s).1, .bool (parseUo s).2]) ∧ Gro w w' := by
  by_cases hz : s.size = 0
  · have hb0 : ((s.size : Int) == 0) = true := by simp [hz]
    have HR := Lib.hid (parseUo_none (s := s) (by rw [show s.data.toList = [] from List.length_eq_zero_iff.1 (by rw [dlen]; exact hz)]; exact parseU_nil))
    go_enter Tryz.func90, Tryz.ntmps90
    go_wp2_with (fail)
    go_ret2
    rw [HR.out]
    exact ⟨rfl, (by repeat (first | with_reducible exact Gro.refl _ | with_reducible exact Gro.refl_drew _ _ _ | with_reducible exact Gro.refl_drewN _ _ _ _ | assumption | with_reducible apply Gro.more | with_reducible apply Gro.alloc | with_reducible apply Gro.drew | with_reducible apply Gro.drewN))⟩
  by_cases h10 : 10 < s.size
  · have hb0 : ((s.size : Int) == 0) = false := beq_eq_false_iff_ne.2 (by omega)
    have hb1 : decide (10 < (s.size : Int)) = true := decide_eq_true (by omega)
    have HR := Lib.hid (parseUo_none (s := s) (parseU_long (by rw [dlen]; exact h10)))
    go_enter Tryz.func90, Tryz.ntmps90
    go_wp2_with (fail)
    go_ret2
    rw [HR.out]
    exact ⟨rfl, (by repeat (first | with_reducible exact Gro.refl _ | with_reducible exact Gro.refl_drew _ _ _ | with_reducible exact Gro.refl_drewN _ _ _ _ | assumption | with_reducible apply Gro.more | with_reducible apply Gro.alloc | with_reducible apply Gro.drew | with_reducible apply Gro.drewN))⟩
  have hpos : 0 < s.size := by omega
  have hb0 : ((s.size : Int) == 0) = false := beq_eq_false_iff_ne.2 (by omega)
  have hb1 : decide (10 < (s.size : Int)) = false := by simp; omega
  have HHD := Lib.hid (head_get hpos)
  by_cases hlead : 1 < s.size ∧ s[0] = 48
  · have hb2 : decide (1 < (s.size : Int)) = true := by simp; omega
    have hb3 : ((s[0].toNat : Int) == 48) = true := by rw [hlead.2]; rfl
    have HR := Lib.hid (parseUo_none (s := s) (parseU_zero (by rw [dlen]; omega) (by rw [HHD.out, hlead.2])))
    have h1 := hlead.1
    clear hlead
    go_enter Tryz.func90, Tryz.ntmps90
    go_wp2_with (fail)
    go_ret2
    rw [HR.out]
    exact ⟨rfl, (by repeat (first | with_reducible exact Gro.refl _ | with_reducible exact Gro.refl_drew _ _ _ | with_reducible exact Gro.refl_drewN _ _ _ _ | assumption | with_reducible apply Gro.more | with_reducible apply Gro.alloc | with_reducible apply Gro.drew | with_reducible apply Gro.drewN))⟩
  · have HL := Lib.hid (show ¬ (1 < s.data.toList.length ∧ s.data.toList.head? = some 48) from by
      rw [dlen, HHD.out]
      rintro ⟨a, b⟩
      simp only [Option.some.injEq] at b
      exact hlead ⟨a, b⟩)
    have HB := Lib.hid (show decide (1 < (s.size : Int)) = false ∨ decide (1 < (s.size : Int)) = true ∧ ((s[0].toNat : Int) == 48) = false from by
      by_cases h1 : 1 < s.size
      · right
        refine ⟨by simp; omega, ?_⟩
        simp only [beq_eq_false_iff_ne, ne_eq]
        intro e
        exact hlead ⟨h1, by apply UInt8.toNat_inj.1; have : (48 : UInt8).toNat = 48 := rfl; omega⟩
      · left
        simp
        omega)
    clear hlead
    rcases HB.out with hb2 | ⟨hb2, hb3⟩
    all_goals
      clear HB
      go_enter Tryz.func90, Tryz.ntmps90
      go_wp2_with (fail)
      go_loop [4, 5] (fun a i => ∃ k : Nat, k ≤ s.size ∧ i = .int .i64 k ∧ a = .int .i64 (valU (s.data.toList.take k)) ∧ Hid ((s.data.toList.take k).all isDig = true)) (fun _ i => s.size - (intOf i).toNat)
      case atStart => exact ⟨0, Nat.zero_le _, rfl, by simp [valU], Lib.hid (by simp)⟩
      case round =>
        obtain ⟨k, hk, rfl, rfl, ha⟩ := hrel
        by_cases hlt : k < s.size
        · have HX := Lib.hid (bytes_get s k hlt)
          have HV := Lib.hid (valU_take HX.out)
          have hv := valU_lt10 (l := s.data.toList.take k) (by simp; omega) ha.out
          have hb256 : s[k].toNat < 256 := UInt8.toNat_lt _
          generalize hvv : valU (s.data.toList.take k) = v at HV hv ⊢
          clear hvv
          by_cases h1 : (s[k].toNat : Int) < 48
          · have HR := Lib.hid (parseUo_none (s := s) (parseU_dig HX.out (isDig_lo h1)))
            go_wp2
            go_ret2
            rw [HR.out]
            exact ⟨rfl, (by repeat (first | with_reducible exact Gro.refl _ | with_reducible exact Gro.refl_drew _ _ _ | with_reducible exact Gro.refl_drewN _ _ _ _ | assumption | with_reducible apply Gro.more | with_reducible apply Gro.alloc | with_reducible apply Gro.drew | with_reducible apply Gro.drewN))⟩
          · by_cases h2 : 57 < (s[k].toNat : Int)
            · have HR := Lib.hid (parseUo_none (s := s) (parseU_dig HX.out (isDig_hi h2)))
              go_wp2
              go_ret2
              rw [HR.out]
              exact ⟨rfl, (by repeat (first | with_reducible exact Gro.refl _ | with_reducible exact Gro.refl_drew _ _ _ | with_reducible exact Gro.refl_drewN _ _ _ _ | assumption | with_reducible apply Gro.more | with_reducible apply Gro.alloc | with_reducible apply Gro.drew | with_reducible apply Gro.drewN))⟩
            · go_wp2
              go_round
              case rel => exact ⟨k + 1, by omega, by go_num, val_int (by rw [HV.out]; omega), Lib.hid (all_snoc HX.out ha.out (isDig_yes h1 h2))⟩
              case measure => simp [intOf]; omega
        · have hje : k = s.size := by omega
          subst hje
          have HA := Lib.hid (show s.data.toList.take s.size = s.data.toList from by rw [← dlen, List.take_length])
          have ha2 := ha.out
          rw [HA.out] at ha2 ⊢
          have hv := valU_lt10 (l := s.data.toList) (by rw [dlen]; omega) ha2
          have HE := Lib.hid (fun (h : valU s.data.toList ≤ 1000000000) => parseUo_some (parseU_ok2 (by rw [dlen]; omega) ha2 h (by intro e; have h9 := dlen s; rw [e] at h9; have h8 : ([] : List UInt8).length = 0 := rfl; omega) HL.out))
          have HB := Lib.hid (fun (h : 1000000000 < valU s.data.toList) => parseUo_none (parseU_big h))
          clear ha2 ha
          generalize valU s.data.toList = v at HE HB hv ⊢
          by_cases hb : 1000000000 < v
          · have HR := Lib.hid (HB.out hb)
            go_wp2
            go_ret2
            rw [HR.out]
            exact ⟨rfl, (by repeat (first | with_reducible exact Gro.refl _ | with_reducible exact Gro.refl_drew _ _ _ | with_reducible exact Gro.refl_drewN _ _ _ _ | assumption | with_reducible apply Gro.more | with_reducible apply Gro.alloc | with_reducible apply Gro.drew | with_reducible apply Gro.drewN))⟩
          · have HR := Lib.hid (HE.out (by omega))
            go_wp2
            go_ret2
            rw [HR.out]
            exact ⟨rfl, (by repeat (first | with_reducible exact Gro.refl _ | with_reducible exact Gro.refl_drew _ _ _ | with_reducible exact Gro.refl_drewN _ _ _ _ | assumption | with_reducible apply Gro.more | with_reducible apply Gro.alloc | with_reducible apply Gro.drew | with_reducible apply Gro.drewN))⟩
theorem cut_next {l : List UInt8} {st k : Nat} {b c : UInt8} (h : l[k]? = some b) (hst : st ≤ k) : cutA c ((l.drop st).take (k - st)) (l.drop k) = if b = c then (l.drop st).take (k - st) :: cutA c ((l.drop (k + 1)).take (k + 1 - (k + 1))) (l.drop (k + 1)) else cutA c ((l.drop st).take (k + 1 - st)) (l.drop (k + 1)) := by
  obtain ⟨hl, rfl⟩ := List.getElem?_eq_some_iff.1 h
  rw [List.drop_eq_getElem_cons hl, cutA]
  congr 1
  · simp
  · congr 1
    rw [show k + 1 - st = (k - st) + 1 by omega, List.take_succ_eq_append_getElem (by simp; omega)]
    congr 2
    rw [List.getElem_drop]
    congr 1
    omega
theorem ext_str (s : ByteArray) (a b : Nat) : s.extract a b = ⟨((s.data.toList.drop a).take (b - a)).toArray⟩ := by
  have := Lib.extract_data s a b
  rw [← this]
set_option maxRecDepth 100000 in
set_option maxHeartbeats 2000000 in
theorem cut_s (c : UInt8) (s : ByteArray) (w : World) (hs : s.size ≤ 4294967280) : Calls Tryz.prog 93 #[.string s, .int .u8 c.toNat] w (RetSl strT 9 (strs (cutA c [] s.data.toList)) w) := by
  go_enter Tryz.func93, Tryz.ntmps93
  go_wp2_with (fail)
  go_loopw [5, 6, 7] (fun a b i wr => ∃ (k st : Nat) (acc : List ByteArray) (A : Option Addr) (cc : Nat), a = .slice A acc.length cc ∧ b = .int .i64 st ∧ i = .int .i64 k ∧ k ≤ s.size + 1 ∧ st ≤ k ∧ acc.length ≤ k ∧ Hid ((k ≤ s.size ∧ acc ++ strs (cutA c ((s.data.toList.drop st).take (k - st)) (s.data.toList.drop k)) = strs (cutA c [] s.data.toList)) ∨ (k = s.size + 1 ∧ acc = strs (cutA c [] s.data.toList))) ∧ Hid (Gro w wr) ∧ Hid (Fresh (strT.sl 9) w wr [.slice A acc.length cc] acc)) (fun _ _ i _ => s.size + 1 - (intOf i).toNat)
  case atStart => exact ⟨0, 0, [], _, 0, rfl, rfl, rfl, by omega, by omega, by simp, Lib.hid (.inl ⟨by omega, by simp⟩), Lib.hid (by repeat (first | with_reducible exact Gro.refl _ | with_reducible exact Gro.refl_drew _ _ _ | with_reducible exact Gro.refl_drewN _ _ _ _ | assumption | with_reducible apply Gro.more | with_reducible apply Gro.alloc | with_reducible apply Gro.drew | with_reducible apply Gro.drewN)), Lib.hid (fresh_empty2 (by repeat (first | with_reducible exact Gro.refl _ | with_reducible exact Gro.refl_drew _ _ _ | with_reducible exact Gro.refl_drewN _ _ _ _ | assumption | with_reducible apply Gro.more | with_reducible apply Gro.alloc | with_reducible apply Gro.drew | with_reducible apply Gro.drewN)) (by repeat (first | with_reducible exact Gro.refl _ | with_reducible exact Gro.refl_drew _ _ _ | with_reducible exact Gro.refl_drewN _ _ _ _ | assumption | with_reducible apply Gro.more | with_reducible apply Gro.alloc | with_reducible apply Gro.drew | with_reducible apply Gro.drewN)) (by simp))⟩
  case round =>
    obtain ⟨k, st, acc, A, cc, rfl, rfl, rfl, hk, hst, hacc, HT, hG, hF⟩ := hrel
    obtain ⟨os, d, rfl⟩ := hG.out
    clear hG
    by_cases hle : k ≤ s.size
    · have HT1 := Lib.hid (show acc ++ strs (cutA c ((s.data.toList.drop st).take (k - st)) (s.data.toList.drop k)) = strs (cutA c [] s.data.toList) from by rcases HT.out with h | h; exact h.2; exact absurd h.1 (by omega))
      clear HT
      have hes : (s.extract st k).size ≤ 9223372036854775807 := by rw [ext_str, szl]; simp; have := dlen s; have : s.data.size = s.size := rfl; omega
      by_cases hlt : k < s.size
      · have HX := Lib.hid (bytes_get s k hlt)
        have HN := Lib.hid (cut_next (c := c) HX.out hst)
        have hb0 : ((k : Int) == (s.size : Int)) = false := by simp; omega
        by_cases hc : s[k] = c
        · have hb1 : ((s[k].toNat : Int) == (c.toNat : Int)) = true := by rw [hc]; simp
          have HT2 := Lib.hid (show (acc ++ [s.extract st k]) ++ strs (cutA c ((s.data.toList.drop (k + 1)).take (k + 1 - (k + 1))) (s.data.toList.drop (k + 1))) = strs (cutA c [] s.data.toList) from by
            rw [← HT1.out, HN.out, if_pos hc, ext_str]
            simp [strs])
          clear hc
          go_wp2_with (at_builtin; go_must (refine wpList_append_fone (W0 := w) (L := acc.length + 1) rfl (.tmp 26) (.tmp 31) el_str flat_str (hF.out.gro (by repeat (first | with_reducible exact Gro.refl _ | with_reducible exact Gro.refl_drew _ _ _ | with_reducible exact Gro.refl_drewN _ _ _ _ | assumption | with_reducible apply Gro.more | with_reducible apply Gro.alloc | with_reducible apply Gro.drew | with_reducible apply Gro.drewN))).fre (by repeat (first | with_reducible exact Gro.refl _ | with_reducible exact Gro.refl_drew _ _ _ | with_reducible exact Gro.refl_drewN _ _ _ _ | assumption | with_reducible apply Gro.more | with_reducible apply Gro.alloc | with_reducible apply Gro.drew | with_reducible apply Gro.drewN)) (W1 := w) (B := 0) (ec := [.string (s.extract st k)]) (y := s.extract st k) ⟨rfl, hes⟩ rfl rfl rfl (by intro j u hu; simpa [go_sem] using hu) rfl (by omega) (by omega) ?_); intro D2 e2 os2 d2 hF2)
          go_roundw
          case rel => exact ⟨k + 1, k + 1, acc ++ [s.extract st k], D2, e2, by simp, by go_num, by go_num, by omega, by omega, by simp; omega, Lib.hid (.inl ⟨by omega, HT2.out⟩), Lib.hid (by repeat (first | with_reducible exact Gro.refl _ | with_reducible exact Gro.refl_drew _ _ _ | with_reducible exact Gro.refl_drewN _ _ _ _ | assumption | with_reducible apply Gro.more | with_reducible apply Gro.alloc | with_reducible apply Gro.drew | with_reducible apply Gro.drewN)), Lib.hid (by simpa using hF2)⟩
          case measure => simp [intOf]; omega
        · have hb1 : ((s[k].toNat : Int) == (c.toNat : Int)) = false := by
            simp only [beq_eq_false_iff_ne, ne_eq]
            intro e
            exact hc (UInt8.toNat_inj.1 (by omega))
          have HT2 := Lib.hid (show acc ++ strs (cutA c ((s.data.toList.drop st).take (k + 1 - st)) (s.data.toList.drop (k + 1))) = strs (cutA c [] s.data.toList) from by
            rw [← HT1.out, HN.out, if_neg hc])
          clear hc
          go_wp2_with (fail)
          go_roundw
          case rel => exact ⟨k + 1, st, acc, A, cc, rfl, rfl, by go_num, by omega, by omega, by omega, Lib.hid (.inl ⟨by omega, HT2.out⟩), Lib.hid (by repeat (first | with_reducible exact Gro.refl _ | with_reducible exact Gro.refl_drew _ _ _ | with_reducible exact Gro.refl_drewN _ _ _ _ | assumption | with_reducible apply Gro.more | with_reducible apply Gro.alloc | with_reducible apply Gro.drew | with_reducible apply Gro.drewN)), Lib.hid (hF.out.gro (by repeat (first | with_reducible exact Gro.refl _ | with_reducible exact Gro.refl_drew _ _ _ | with_reducible exact Gro.refl_drewN _ _ _ _ | assumption | with_reducible apply Gro.more | with_reducible apply Gro.alloc | with_reducible apply Gro.drew | with_reducible apply Gro.drewN)))⟩
          case measure => simp [intOf]; omega
      · have hke : k = s.size := by omega
        have hb0 : ((k : Int) == (s.size : Int)) = true := by simp; omega
        have HT2 := Lib.hid (show acc ++ [s.extract st k] = strs (cutA c [] s.data.toList) from by
          rw [← HT1.out, show s.data.toList.drop k = [] from List.drop_of_length_le (by rw [dlen]; omega), cutA, ext_str]
          simp [strs])
        clear hke
        go_wp2_with (at_builtin; go_must (refine wpList_append_fone (W0 := w) (L := acc.length + 1) rfl (.tmp 26) (.tmp 31) el_str flat_str (hF.out.gro (by repeat (first | with_reducible exact Gro.refl _ | with_reducible exact Gro.refl_drew _ _ _ | with_reducible exact Gro.refl_drewN _ _ _ _ | assumption | with_reducible apply Gro.more | with_reducible apply Gro.alloc | with_reducible apply Gro.drew | with_reducible apply Gro.drewN))).fre (by repeat (first | with_reducible exact Gro.refl _ | with_reducible exact Gro.refl_drew _ _ _ | with_reducible exact Gro.refl_drewN _ _ _ _ | assumption | with_reducible apply Gro.more | with_reducible apply Gro.alloc | with_reducible apply Gro.drew | with_reducible apply Gro.drewN)) (W1 := w) (B := 0) (ec := [.string (s.extract st k)]) (y := s.extract st k) ⟨rfl, hes⟩ rfl rfl rfl (by intro j u hu; simpa [go_sem] using hu) rfl (by omega) (by omega) ?_); intro D2 e2 os2 d2 hF2)
        go_roundw
        case rel => exact ⟨k + 1, k + 1, acc ++ [s.extract st k], D2, e2, by simp, by go_num, by go_num, by omega, by omega, by simp; omega, Lib.hid (.inr ⟨by omega, HT2.out⟩), Lib.hid (by repeat (first | with_reducible exact Gro.refl _ | with_reducible exact Gro.refl_drew _ _ _ | with_reducible exact Gro.refl_drewN _ _ _ _ | assumption | with_reducible apply Gro.more | with_reducible apply Gro.alloc | with_reducible apply Gro.drew | with_reducible apply Gro.drewN)), Lib.hid (by simpa using hF2)⟩
        case measure => simp [intOf]; omega
    · have HT2 := Lib.hid (show acc = strs (cutA c [] s.data.toList) from by rcases HT.out with h | h; exact absurd h.1 (by omega); exact h.2)
      clear HT
      go_wp2_with (fail)
      go_ret
      rw [← HT2.out]
      exact ⟨A, cc, rfl, hF.out.gro (by repeat (first | with_reducible exact Gro.refl _ | with_reducible exact Gro.refl_drew _ _ _ | with_reducible exact Gro.refl_drewN _ _ _ _ | assumption | with_reducible apply Gro.more | with_reducible apply Gro.alloc | with_reducible apply Gro.drew | with_reducible apply Gro.drewN)), (by repeat (first | with_reducible exact Gro.refl _ | with_reducible exact Gro.refl_drew _ _ _ | with_reducible exact Gro.refl_drewN _ _ _ _ | assumption | with_reducible apply Gro.more | with_reducible apply Gro.alloc | with_reducible apply Gro.drew | with_reducible apply Gro.drewN))⟩
end Go.Proofs.YtdlkoffandhclaaGreatDoor
