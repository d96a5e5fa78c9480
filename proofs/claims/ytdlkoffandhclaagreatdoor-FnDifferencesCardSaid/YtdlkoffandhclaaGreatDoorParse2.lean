/-
  PARSE, PART 2: ParseFrames of the program and of the reference.
-/
import Derived.Test.YtdlkoffandhclaaGreatDoorParse
import Derived.Test.YtdlkoffandhclaaGreatDoorLsFrame
import Derived.Test.YtdlkoffandhclaaGreatDoorBox5
import Derived.BigQuiet
import Derived.Deep.RegionHeld3
import Derived.Deep.RegionLaw
set_option linter.unusedVariables false
set_option linter.unusedSimpArgs false
namespace Go.Proofs.YtdlkoffandhclaaGreatDoor
open Go.RowKit
theorem cut59_s (s : ByteArray) (w : World) (hs : s.size ≤ 4294967280) : Calls Tryz.prog 93 #[.string s, .int .u8 59] w (RetSl strT 9 (strs (cutA 59 [] s.data.toList)) w) := cut_s 59 s w hs
theorem cut58_s (s : ByteArray) (w : World) (hs : s.size ≤ 4294967280) : Calls Tryz.prog 93 #[.string s, .int .u8 58] w (RetSl strT 9 (strs (cutA 58 [] s.data.toList)) w) := cut_s 58 s w hs
theorem part_not {l : List UInt8} (h : (cutA 58 [] l).length ≠ 2) : parsePart l = none := by
  unfold parsePart
  split
  · rename_i e; rw [e] at h; exact absurd rfl h
  · rfl
theorem part_two {l a b : List UInt8} (h : cutA 58 [] l = [a, b]) : parsePart l = (parseU b).map fun (n : Nat) => (⟨⟨a.toArray⟩, (n : Int)⟩ : DFrame) := by
  unfold parsePart
  rw [h]
def parseR (s : ByteArray) : List DFrame × Bool := match parseF s with
  | some fs => (fs, true)
  | none => ([], false)
theorem parseR_bad {s : ByteArray} (h : parseL (cutA 59 [] s.data.toList) [] = none) : parseR s = ([], false) := by
  unfold parseR parseF
  rw [h]
theorem parseR_no {s : ByteArray} {fs : List DFrame} (h : parseL (cutA 59 [] s.data.toList) [] = some fs) (h2 : s.size = 0 ∨ fmtF fs ≠ s) : parseR s = ([], false) := by
  unfold parseR parseF
  rw [h]
  simp only
  rw [if_pos h2]
theorem parseR_yes {s : ByteArray} {fs : List DFrame} (h : parseL (cutA 59 [] s.data.toList) [] = some fs) (h1 : s.size ≠ 0) (h2 : fmtF fs = s) : parseR s = (fs, true) := by
  unfold parseR parseF
  rw [h]
  simp only
  rw [if_neg (fun k => k.elim h1 (fun k => k h2))]
theorem parseR_len (s : ByteArray) : (parseR s).1.length ≤ s.size + 1 := by
  unfold parseR
  split
  · rename_i h
    exact parseF_len h
  · simp
theorem strs_len (l : List (List UInt8)) : (strs l).length = l.length := by simp [strs]
theorem strs_get {l : List (List UInt8)} {j : Nat} {x : ByteArray} (h : (strs l)[j]? = some x) : l[j]? = some x.data.toList := by
  unfold strs at h
  rw [List.getElem?_map] at h
  cases hl : l[j]? with
  | none => rw [hl] at h; cases h
  | some y =>
    rw [hl] at h
    simp only [Option.map_some, Option.some.injEq] at h
    subst h
    simp
theorem drop_at {α : Type} {l : List α} {j : Nat} {x : α} (h : l[j]? = some x) : l.drop j = x :: l.drop (j + 1) := by
  obtain ⟨hl, rfl⟩ := List.getElem?_eq_some_iff.1 h
  exact List.drop_eq_getElem_cons hl
theorem two_at {e : TypeId} {w : World} {B : Nat} {A : Option Addr} {n c : Nat} {a b : ByteArray} (h : (strT.sl e).R w B [.slice A n c] [a, b]) :
    ∃ g off, A = some ⟨g, off, none⟩ ∧ w.cell? ⟨g, off, none⟩ = some (.string a) ∧ w.cell? ⟨g, off + 1, none⟩ = some (.string b) ∧ a.size ≤ 9223372036854775807 ∧ b.size ≤ 9223372036854775807 := by
  obtain ⟨g, off, x, rfl, hx, h0, b0⟩ := strs_at h (k := 0) (by simp)
  obtain ⟨g', off', y, hA, hy, h1, b1⟩ := strs_at h (k := 1) (by simp)
  simp only [Option.some.injEq, Addr.mk.injEq, and_true] at hA
  obtain ⟨rfl, rfl⟩ := hA
  simp only [List.getElem?_cons_zero, Option.some.injEq] at hx
  simp only [List.getElem?_cons_succ, List.getElem?_cons_zero, Option.some.injEq] at hy
  subst hx hy
  exact ⟨g, off, rfl, by simpa using h0, h1, b0, b1⟩
theorem two_strs {l : List (List UInt8)} {a b : ByteArray} (h : strs l = [a, b]) : l = [a.data.toList, b.data.toList] := by
  match l, h with
  | [], h => cases h
  | [_], h => cases h
  | [x, y], h =>
    simp only [strs, List.map_cons, List.map_nil, List.cons.injEq, and_true] at h
    obtain ⟨rfl, rfl⟩ := h
    simp
  | _ :: _ :: _ :: _, h => cases h
theorem emp_yes {s : ByteArray} (h : s.size = 0) : s.toList.isEmpty = true := by
  rw [ByteArray.toList_eq, List.isEmpty_iff]
  exact List.length_eq_zero_iff.1 (by rw [dlen]; exact h)
theorem emp_no {s : ByteArray} (h : ¬ s.size = 0) : s.toList.isEmpty = false := by
  rw [ByteArray.toList_eq, ← Bool.not_eq_true, List.isEmpty_iff]
  intro e
  have := dlen s
  rw [e] at this
  simp at this
  omega
def RetParse (x : List DFrame × Bool) (w : World) (r : Ending) (w' : World) : Prop := ∃ A c, r = .returned (.tuple #[.slice A x.1.length c, .bool x.2]) ∧ Fresh (tFrame.sl 90) w w' [.slice A x.1.length c] x.1 ∧ Gro w w'
set_option maxRecDepth 100000 in
set_option maxHeartbeats 4000000 in
theorem parseF_s (s : ByteArray) (w : World) (hs : s.size ≤ 1073741824) : Calls Tryz.prog 60 #[.string s] w (RetParse (parseR s) w) := by
  go_enter Tryz.func60, Tryz.ntmps60
  go_wp2_with (go_at_call 93; go_must ((with_reducible refine (cut59_s s _ (by omega)).mono ?_)); rintro e w1 ⟨A1, c1, rfl, hF1, os1, d1, rfl⟩)
  obtain ⟨Q, hQ⟩ : ∃ Q, strs (cutA 59 [] s.data.toList) = Q := ⟨_, rfl⟩
  have hQl : Q.length ≤ s.size + 1 := by rw [← hQ, strs_len]; have := cutA_len (c := 59) (l := s.data.toList) (cur := []); rw [dlen] at this; exact this
  have HQ := Lib.hid hQ
  rw [hQ] at hF1 ⊢
  clear hQ
  obtain ⟨_, _, hv, hcc, hcm⟩ := sl_at hF1.read
  injection hv with hA' _ hc'
  subst hA' hc'
  have HF1 := Lib.hid hF1
  clear hF1
  go_loopw [4, 6] (fun a b wr => ∃ (j : Nat) (acc : List DFrame) (A : Option Addr) (c : Nat), a = .slice A acc.length c ∧ b = .int .i64 j ∧ j ≤ Q.length ∧ acc.length ≤ j ∧ Hid (parseL ((cutA 59 [] s.data.toList).drop j) acc = parseL (cutA 59 [] s.data.toList) []) ∧ Hid (Gro (gro (w.alloc (.cells #[] 90)) os1 d1) wr) ∧ Hid (EmpFr tFrame 90 (gro (w.alloc (.cells #[] 90)) os1 d1) w.heap.size wr A acc.length c acc)) (fun _ b _ => Q.length - (intOf b).toNat)
  case atStart => exact ⟨0, [], _, 0, rfl, rfl, by omega, by simp, Lib.hid (by simp), Lib.hid (by repeat (first | with_reducible exact Gro.refl _ | with_reducible exact Gro.refl_drew _ _ _ | with_reducible exact Gro.refl_drewN _ _ _ _ | assumption | with_reducible apply Gro.more | with_reducible apply Gro.alloc | with_reducible apply Gro.drew | with_reducible apply Gro.drewN)), Lib.hid (EmpFr.start (by repeat (first | with_reducible exact Gro.refl _ | with_reducible exact Gro.refl_drew _ _ _ | with_reducible exact Gro.refl_drewN _ _ _ _ | assumption | with_reducible apply Gro.more | with_reducible apply Gro.alloc | with_reducible apply Gro.drew | with_reducible apply Gro.drewN)) (by simp))⟩
  case round =>
    obtain ⟨j, acc, A, c, rfl, rfl, hj, hacc, HT, hG, hF⟩ := hrel
    obtain ⟨os, d, rfl⟩ := hG.out
    clear hG
    by_cases hlt : j < Q.length
    · obtain ⟨g, off, x, rfl, hxk, hcx, bx⟩ := strs_at HF1.out.read hlt
      have HX := Lib.hid (strs_get (l := cutA 59 [] s.data.toList) (by rw [HQ.out]; exact hxk))
      have hxs : x.size ≤ 4294967280 := by
        have h1 := cutA_piece (List.mem_of_getElem? HX.out)
        rw [dlen, dlen] at h1
        simp only [List.length_nil] at h1
        omega
      have HD := Lib.hid (drop_at HX.out)
      clear hxk
      obtain ⟨R, hR⟩ : ∃ R, strs (cutA 58 [] x.data.toList) = R := ⟨_, rfl⟩
      have HR := Lib.hid hR
      clear hR
      by_cases h2 : R.length = 2
      · obtain ⟨a, b, rfl⟩ : ∃ a b, R = [a, b] := by
          match R, h2 with
          | [a, b], _ => exact ⟨a, b, rfl⟩
        have HC := Lib.hid (two_strs HR.out)
        have hbs : b.size ≤ 4294967280 := by
          have h1 := cutA_piece (c := 58) (l := x.data.toList) (cur := []) (p := b.data.toList) (by rw [HC.out]; simp)
          rw [dlen, dlen] at h1
          simp only [List.length_nil] at h1
          omega
        have hcx2 := gro_keeps hcx os d
        cases hu : parseU b.data.toList with
        | none =>
          have HU := Lib.hid (parseUo_none hu)
          have HP := Lib.hid (parseR_bad (s := s) (by rw [← HT.out, HD.out, parseL_none (by rw [part_two HC.out, hu]; rfl)]))
          clear hu
          go_wp2_with (first
            | (go_at_call 93; go_must ((with_reducible refine (cut58_s x _ hxs).mono ?_)); rw [HR.out]; rintro e w2 ⟨A2, c2, rfl, hF2, os2, d2, rfl⟩; obtain ⟨g2, off2, rfl, hc0, hc1, ba, bb⟩ := two_at hF2.read)
            | (go_at_call 94; go_must ((with_reducible refine (parseU_s b _ bb).mono ?_)); rw [HU.out]; rintro e w3 ⟨rfl, os3, d3, rfl⟩))
          go_ret2
          rw [HP.out]
          exact ⟨_, 0, rfl, fresh_empty2 (W0 := w) (by repeat (first | with_reducible exact Gro.refl _ | with_reducible exact Gro.refl_drew _ _ _ | with_reducible exact Gro.refl_drewN _ _ _ _ | assumption | with_reducible apply Gro.more | with_reducible apply Gro.alloc | with_reducible apply Gro.drew | with_reducible apply Gro.drewN)) (by repeat (first | with_reducible exact Gro.refl _ | with_reducible exact Gro.refl_drew _ _ _ | with_reducible exact Gro.refl_drewN _ _ _ _ | assumption | with_reducible apply Gro.more | with_reducible apply Gro.alloc | with_reducible apply Gro.drew | with_reducible apply Gro.drewN)) (by simp), (by repeat (first | with_reducible exact Gro.refl _ | with_reducible exact Gro.refl_drew _ _ _ | with_reducible exact Gro.refl_drewN _ _ _ _ | assumption | with_reducible apply Gro.more | with_reducible apply Gro.alloc | with_reducible apply Gro.drew | with_reducible apply Gro.drewN))⟩
        | some n =>
          have HU := Lib.hid (parseUo_some hu)
          have hn := parseU_le hu
          have HP := Lib.hid (show parseL ((cutA 59 [] s.data.toList).drop (j + 1)) (acc ++ [⟨a, n⟩]) = parseL (cutA 59 [] s.data.toList) [] from by
            rw [← HT.out, HD.out]
            refine (parseL_some ?_).symm
            rw [part_two HC.out, hu]
            simp)
          clear hu
          go_wp2_with (first
            | (go_at_call 93; go_must ((with_reducible refine (cut58_s x _ hxs).mono ?_)); rw [HR.out]; rintro e w2 ⟨A2, c2, rfl, hF2, os2, d2, rfl⟩; obtain ⟨g2, off2, rfl, hc0, hc1, ba, bb⟩ := two_at hF2.read)
            | (go_at_call 94; go_must ((with_reducible refine (parseU_s b _ bb).mono ?_)); rw [HU.out]; rintro e w3 ⟨rfl, os3, d3, rfl⟩; have hc2 := gro_keeps hc0 os3 d3)
            | (at_builtin; go_must (refine wpList_append_eone (W0 := (gro (w.alloc (.cells #[] 90)) os1 d1)) (L := acc.length + 1) rfl (.tmp 38) (.tmp 44) elFrame flatFrame (hF.out.gro (by repeat (first | with_reducible exact Gro.refl _ | with_reducible exact Gro.refl_drew _ _ _ | with_reducible exact Gro.refl_drewN _ _ _ _ | assumption | with_reducible apply Gro.more | with_reducible apply Gro.alloc | with_reducible apply Gro.drew | with_reducible apply Gro.drewN))) (by repeat (first | with_reducible exact Gro.refl _ | with_reducible exact Gro.refl_drew _ _ _ | with_reducible exact Gro.refl_drewN _ _ _ _ | assumption | with_reducible apply Gro.more | with_reducible apply Gro.alloc | with_reducible apply Gro.drew | with_reducible apply Gro.drewN)) (W1 := w) (B := 0) (ec := [.string a, .int .i64 n]) (y := ⟨a, n⟩) (tFrame_mkR (x := ⟨a, n⟩) ba (show I64 (n : Int) from ⟨by omega, by omega⟩)) rfl rfl rfl (by simp) (by intro j u hu; simpa [go_sem] using hu) rfl (by omega) (by omega) ?_); intro D2 e2 os4 d4 hF4))
          go_roundw
          case rel => exact ⟨j + 1, acc ++ [⟨a, n⟩], D2, e2, by simp, by go_num, by omega, by simp; omega, HP, Lib.hid (by repeat (first | with_reducible exact Gro.refl _ | with_reducible exact Gro.refl_drew _ _ _ | with_reducible exact Gro.refl_drewN _ _ _ _ | assumption | with_reducible apply Gro.more | with_reducible apply Gro.alloc | with_reducible apply Gro.drew | with_reducible apply Gro.drewN)), Lib.hid (.inr (by simpa using hF4))⟩
          case measure => simp [intOf]; omega
      · have HP := Lib.hid (parseR_bad (s := s) (by rw [← HT.out, HD.out, parseL_none (part_not (by rw [← strs_len, HR.out]; exact h2))]))
        have hcx2 := gro_keeps hcx os d
        go_wp2_with (go_at_call 93; go_must ((with_reducible refine (cut58_s x _ hxs).mono ?_)); rw [HR.out]; rintro e w1 ⟨A2, c2, rfl, hF2, os2, d2, rfl⟩)
        go_ret2
        rw [HP.out]
        exact ⟨_, 0, rfl, fresh_empty2 (W0 := w) (by repeat (first | with_reducible exact Gro.refl _ | with_reducible exact Gro.refl_drew _ _ _ | with_reducible exact Gro.refl_drewN _ _ _ _ | assumption | with_reducible apply Gro.more | with_reducible apply Gro.alloc | with_reducible apply Gro.drew | with_reducible apply Gro.drewN)) (by repeat (first | with_reducible exact Gro.refl _ | with_reducible exact Gro.refl_drew _ _ _ | with_reducible exact Gro.refl_drewN _ _ _ _ | assumption | with_reducible apply Gro.more | with_reducible apply Gro.alloc | with_reducible apply Gro.drew | with_reducible apply Gro.drewN)) (by simp), (by repeat (first | with_reducible exact Gro.refl _ | with_reducible exact Gro.refl_drew _ _ _ | with_reducible exact Gro.refl_drewN _ _ _ _ | assumption | with_reducible apply Gro.more | with_reducible apply Gro.alloc | with_reducible apply Gro.drew | with_reducible apply Gro.drewN))⟩
    · have hje : j = Q.length := by omega
      subst hje
      have HE := Lib.hid (show parseL (cutA 59 [] s.data.toList) [] = some acc from by
        rw [← HT.out, List.drop_of_length_le (by rw [← strs_len, HQ.out]; omega)]
        rfl)
      by_cases hz : s.size = 0
      · have HP := Lib.hid (parseR_no HE.out (.inl hz))
        have hsb := emp_yes hz
        go_wp2_with (fail)
        go_ret2
        rw [HP.out]
        exact ⟨_, 0, rfl, fresh_empty2 (W0 := w) (by repeat (first | with_reducible exact Gro.refl _ | with_reducible exact Gro.refl_drew _ _ _ | with_reducible exact Gro.refl_drewN _ _ _ _ | assumption | with_reducible apply Gro.more | with_reducible apply Gro.alloc | with_reducible apply Gro.drew | with_reducible apply Gro.drewN)) (by repeat (first | with_reducible exact Gro.refl _ | with_reducible exact Gro.refl_drew _ _ _ | with_reducible exact Gro.refl_drewN _ _ _ _ | assumption | with_reducible apply Gro.more | with_reducible apply Gro.alloc | with_reducible apply Gro.drew | with_reducible apply Gro.drewN)) (by simp), (by repeat (first | with_reducible exact Gro.refl _ | with_reducible exact Gro.refl_drew _ _ _ | with_reducible exact Gro.refl_drewN _ _ _ _ | assumption | with_reducible apply Gro.more | with_reducible apply Gro.alloc | with_reducible apply Gro.drew | with_reducible apply Gro.drewN))⟩
      · have hsb := emp_no hz
        by_cases hf : fmtF acc = s
        · have HP := Lib.hid (parseR_yes HE.out hz hf)
          have hsc : ((fmtF acc).toList == s.toList) = true := by rw [str_eqb]; simp [hf]
          have HF9 := Lib.hid hf
          clear hf
          go_wp2_with (go_at_call 72; go_must ((with_reducible refine (fmtF_s (l := acc) (Ty.up _ (hF.out.fresh (w := w) (by omega) (by simp; omega)).read (by repeat (first | with_reducible exact Gro.refl _ | with_reducible exact Gro.refl_drew _ _ _ | with_reducible exact Gro.refl_drewN _ _ _ _ | assumption | with_reducible apply Gro.more | with_reducible apply Gro.alloc | with_reducible apply Gro.drew | with_reducible apply Gro.drewN))) (by omega)).mono ?_)); rintro e w2 ⟨rfl, os2, d2, rfl⟩)
          go_ret2
          rw [HP.out]
          exact ⟨A, c, rfl, (hF.out.fresh (w := w) (by omega) (by simp; omega)).gro (by repeat (first | with_reducible exact Gro.refl _ | with_reducible exact Gro.refl_drew _ _ _ | with_reducible exact Gro.refl_drewN _ _ _ _ | assumption | with_reducible apply Gro.more | with_reducible apply Gro.alloc | with_reducible apply Gro.drew | with_reducible apply Gro.drewN)), (by repeat (first | with_reducible exact Gro.refl _ | with_reducible exact Gro.refl_drew _ _ _ | with_reducible exact Gro.refl_drewN _ _ _ _ | assumption | with_reducible apply Gro.more | with_reducible apply Gro.alloc | with_reducible apply Gro.drew | with_reducible apply Gro.drewN))⟩
        · have HP := Lib.hid (parseR_no HE.out (.inr hf))
          have hsc : ((fmtF acc).toList == s.toList) = false := by rw [str_eqb]; simp [hf]
          clear hf
          go_wp2_with (go_at_call 72; go_must ((with_reducible refine (fmtF_s (l := acc) (Ty.up _ (hF.out.fresh (w := w) (by omega) (by simp; omega)).read (by repeat (first | with_reducible exact Gro.refl _ | with_reducible exact Gro.refl_drew _ _ _ | with_reducible exact Gro.refl_drewN _ _ _ _ | assumption | with_reducible apply Gro.more | with_reducible apply Gro.alloc | with_reducible apply Gro.drew | with_reducible apply Gro.drewN))) (by omega)).mono ?_)); rintro e w2 ⟨rfl, os2, d2, rfl⟩)
          go_ret2
          rw [HP.out]
          exact ⟨_, 0, rfl, fresh_empty2 (W0 := w) (by repeat (first | with_reducible exact Gro.refl _ | with_reducible exact Gro.refl_drew _ _ _ | with_reducible exact Gro.refl_drewN _ _ _ _ | assumption | with_reducible apply Gro.more | with_reducible apply Gro.alloc | with_reducible apply Gro.drew | with_reducible apply Gro.drewN)) (by repeat (first | with_reducible exact Gro.refl _ | with_reducible exact Gro.refl_drew _ _ _ | with_reducible exact Gro.refl_drewN _ _ _ _ | assumption | with_reducible apply Gro.more | with_reducible apply Gro.alloc | with_reducible apply Gro.drew | with_reducible apply Gro.drewN)) (by simp), (by repeat (first | with_reducible exact Gro.refl _ | with_reducible exact Gro.refl_drew _ _ _ | with_reducible exact Gro.refl_drewN _ _ _ _ | assumption | with_reducible apply Gro.more | with_reducible apply Gro.alloc | with_reducible apply Gro.drew | with_reducible apply Gro.drewN))⟩
end Go.Proofs.YtdlkoffandhclaaGreatDoor
