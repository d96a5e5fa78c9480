/-
  RINGS: bytesOf, RingOk, copyRing, PutRecord, TakeRecords, RingBytes of the program and of the reference: what they compute.
-/
import Derived.Test.YtdlkoffandhclaaFnRing
import Derived.Test.YtdlkoffandhclaaAppend
set_option linter.unusedVariables false
set_option linter.unusedSimpArgs false
namespace Go.Proofs.Ytdlkoffandhclaa
open Go.RowKit
def sumS (rs : List ByteArray) : Nat := (rs.map ByteArray.size).sum
theorem bytesOf_i {rs : List ByteArray} {w : World} {B : Nat} {v : Value} (hx : (strT.sl 9).R w B [v] rs) (hs : sumS rs ≤ 1099511627776) :
    Calls Try.prog 42 #[v] w fun e w' => e = .returned (.int .i64 (sumS rs)) ∧ w' = w := by
  obtain ⟨A, c, rfl, h2, h3⟩ := sl_at hx
  unfold sumS at hs
  go_enter Try.func42, Try.ntmps42
  go_wp2_with (fail)
  go_loop [3, 8] (fun a i => ∃ (j s : Nat), j ≤ rs.length ∧ Hid (s = ((rs.take j).map ByteArray.size).sum) ∧ s ≤ 1099511627776 ∧ a = .int .i64 s ∧ i = .int .i64 j) (fun _ i => rs.length - (intOf i).toNat)
  case atStart => exact ⟨0, 0, Nat.zero_le _, rfl, by omega, rfl, rfl⟩
  case round =>
    obtain ⟨j, s, hj, hsm, hle, rfl, rfl⟩ := hrel
    by_cases hlt : j < rs.length
    · obtain ⟨g, off, x, rfl, hxk, hcx, bx⟩ := strs_at hx hlt
      have HX := Lib.hid (szSnoc ByteArray.size hxk)
      have hm : s + x.size ≤ 1099511627776 := by
        have h1 := szLe ByteArray.size rs (j + 1)
        have h2 := HX.out
        have h3 := hsm.out
        omega
      clear hxk hx
      go_wp2
      go_round
      case rel => exact ⟨j + 1, s + x.size, by omega, (by rw [hsm.out]; exact HX.out.symm), by omega, by go_num, by go_num⟩
      case measure => simp [intOf]; omega
    · go_wp2
      go_ret
      exact ⟨ret_int (by rw [hsm.out, szAll ByteArray.size (show j = rs.length by omega)]; rfl), rfl⟩
theorem bytesOf_s {rs : List ByteArray} {w : World} {B : Nat} {v : Value} (hx : (strT.sl 9).R w B [v] rs) (hs : sumS rs ≤ 1099511627776) :
    Calls Try.prog 44 #[v] w fun e w' => e = .returned (.int .i64 (sumS rs)) ∧ w' = w := by
  obtain ⟨A, c, rfl, h2, h3⟩ := sl_at hx
  unfold sumS at hs
  go_enter Try.func44, Try.ntmps44
  go_wp2_with (fail)
  go_loop [3, 4] (fun a i => ∃ (j s : Nat), j ≤ rs.length ∧ Hid (s = ((rs.take j).map ByteArray.size).sum) ∧ s ≤ 1099511627776 ∧ a = .int .i64 s ∧ i = .int .i64 j) (fun _ i => rs.length - (intOf i).toNat)
  case atStart => exact ⟨0, 0, Nat.zero_le _, rfl, by omega, rfl, rfl⟩
  case round =>
    obtain ⟨j, s, hj, hsm, hle, rfl, rfl⟩ := hrel
    by_cases hlt : j < rs.length
    · obtain ⟨g, off, x, rfl, hxk, hcx, bx⟩ := strs_at hx hlt
      have HX := Lib.hid (szSnoc ByteArray.size hxk)
      have hm : s + x.size ≤ 1099511627776 := by
        have h1 := szLe ByteArray.size rs (j + 1)
        have h2 := HX.out
        have h3 := hsm.out
        omega
      clear hxk hx
      go_wp2
      go_round
      case rel => exact ⟨j + 1, s + x.size, by omega, (by rw [hsm.out]; exact HX.out.symm), by omega, by go_num, by go_num⟩
      case measure => simp [intOf]; omega
    · go_wp2
      go_ret
      exact ⟨ret_int (by rw [hsm.out, szAll ByteArray.size (show j = rs.length by omega)]; rfl), rfl⟩
def ringOk (r : DRing) : Bool := r.Records.all (fun s => !(s.toList == [])) && (btw r.Capacity 0 100000 && (decide ((sumS r.Records : Int) ≤ r.Capacity) && (btw r.Written r.Records.length 1000000000000 && btw r.Lost 0 1000000000000)))
theorem all_take_succ {α : Type} {xs : List α} {f : α → Bool} {j : Nat} {x : α} (h : xs[j]? = some x) (ha : (xs.take j).all f = true) (hf : f x = true) : (xs.take (j + 1)).all f = true := by
  rw [take_snoc h, List.all_append, ha]
  simp [hf]
theorem all_false {α : Type} {xs : List α} {f : α → Bool} {j : Nat} {x : α} (h : xs[j]? = some x) (hf : f x = false) : xs.all f = false := by
  rw [List.all_eq_false]
  exact ⟨x, List.mem_of_getElem? h, by simp [hf]⟩
set_option maxRecDepth 100000 in
theorem ringOk_i {r : DRing} {w : World} {A0 : Option Addr} {c0 : Nat} (h1 : (strT.sl 9).R w w.heap.size [.slice A0 r.Records.length c0] r.Records) (hs : sumS r.Records ≤ 1099511627776) :
    Calls Try.prog 20 #[.agg #[.int .i64 r.Capacity, .slice A0 r.Records.length c0, .int .i64 r.Written, .int .i64 r.Lost]] w fun e w' => e = .returned (.bool (ringOk r)) ∧ Gro w w' := by
  obtain ⟨Capacity, rs, Written, Lost⟩ := r
  simp only at h1 hs ⊢
  obtain ⟨_, _, hv, h2, h3⟩ := sl_at h1
  injection hv with hA hn hc
  subst hA hc
  clear hn
  go_enter Try.func20, Try.ntmps20
  go_wp2_with (fail)
  go_loop [8] (fun i => ∃ (j : Nat), j ≤ rs.length ∧ i = .int .i64 j ∧ Hid ((rs.take j).all (fun s => !(s.toList == [])) = true)) (fun i => rs.length - (intOf i).toNat)
  case atStart => exact ⟨0, Nat.zero_le _, rfl, rfl⟩
  case round =>
    obtain ⟨j, hj, rfl, ha⟩ := hrel
    by_cases hlt : j < rs.length
    · obtain ⟨g, off, x, rfl, hxk, hcx, bx⟩ := strs_at h1 hlt
      have hgb := World.block_lt_of_cell? _ _ hcx
      simp only at hgb
      have HX := Lib.hid hxk
      have H1 := Lib.hid h1
      clear hxk h1
      cases hb : x.toList == []
      · go_wp2
        go_round
        case rel => exact ⟨j + 1, by omega, by go_num, all_take_succ HX.out ha.out (by simp [hb])⟩
        case measure => simp [intOf]; omega
      · have HF := Lib.hid (all_false (f := fun s : ByteArray => !(s.toList == [])) HX.out (by simp [hb]))
        go_wp2
        go_ret
        exact ⟨ret_bool (by unfold ringOk; rw [HF.out]; rfl), (by repeat (first | with_reducible exact Gro.refl _ | with_reducible exact Gro.refl_drew _ _ _ | with_reducible exact Gro.refl_drewN _ _ _ _ | assumption | with_reducible apply Gro.more | with_reducible apply Gro.alloc | with_reducible apply Gro.drew | with_reducible apply Gro.drewN))⟩
    · have hje : j = rs.length := by omega
      subst hje
      rw [List.take_length] at ha
      have HR : Hid (ringOk ⟨Capacity, rs, Written, Lost⟩ = (btw Capacity 0 100000 && (decide ((sumS rs : Int) ≤ Capacity) && (btw Written rs.length 1000000000000 && btw Lost 0 1000000000000)))) := by
        show ringOk _ = _
        unfold ringOk
        rw [ha.out]
        rfl
      clear ha
      cases b1 : btw Capacity 0 100000
      · go_wp2_with (fail)
        go_quiet ((first | (go_at_call 45; with_reducible exact in_iv b1 _ _) | (go_at_call 42; exact Calls.quiet_of_same (bytesOf_i (Ty.up _ h1 (by repeat (first | with_reducible exact Gro.refl _ | with_reducible exact Gro.refl_drew _ _ _ | with_reducible exact Gro.refl_drewN _ _ _ _ | assumption | with_reducible apply Gro.more | with_reducible apply Gro.alloc | with_reducible apply Gro.drew | with_reducible apply Gro.drewN))) hs))))
        go_wp2
        go_ret
        exact ⟨ret_bool (by rw [HR.out, b1]; rfl), (by repeat (first | with_reducible exact Gro.refl _ | with_reducible exact Gro.refl_drew _ _ _ | with_reducible exact Gro.refl_drewN _ _ _ _ | assumption | with_reducible apply Gro.more | with_reducible apply Gro.alloc | with_reducible apply Gro.drew | with_reducible apply Gro.drewN))⟩
      · cases b2 : decide ((sumS rs : Int) ≤ Capacity)
        · go_wp2_with (fail)
          go_quiet ((first | (go_at_call 45; with_reducible exact in_iv b1 _ _) | (go_at_call 42; exact Calls.quiet_of_same (bytesOf_i (Ty.up _ h1 (by repeat (first | with_reducible exact Gro.refl _ | with_reducible exact Gro.refl_drew _ _ _ | with_reducible exact Gro.refl_drewN _ _ _ _ | assumption | with_reducible apply Gro.more | with_reducible apply Gro.alloc | with_reducible apply Gro.drew | with_reducible apply Gro.drewN))) hs))))
          go_wp2
          go_ret
          exact ⟨ret_bool (by rw [HR.out, b1, b2]; rfl), (by repeat (first | with_reducible exact Gro.refl _ | with_reducible exact Gro.refl_drew _ _ _ | with_reducible exact Gro.refl_drewN _ _ _ _ | assumption | with_reducible apply Gro.more | with_reducible apply Gro.alloc | with_reducible apply Gro.drew | with_reducible apply Gro.drewN))⟩
        · cases b3 : btw Written rs.length 1000000000000
          · go_wp2_with (fail)
            go_quiet ((first | (go_at_call 45; with_reducible exact in_iv b1 _ _) | (go_at_call 45; with_reducible exact in_iv b3 _ _) | (go_at_call 42; exact Calls.quiet_of_same (bytesOf_i (Ty.up _ h1 (by repeat (first | with_reducible exact Gro.refl _ | with_reducible exact Gro.refl_drew _ _ _ | with_reducible exact Gro.refl_drewN _ _ _ _ | assumption | with_reducible apply Gro.more | with_reducible apply Gro.alloc | with_reducible apply Gro.drew | with_reducible apply Gro.drewN))) hs))))
            go_wp2
            go_ret
            exact ⟨ret_bool (by rw [HR.out, b1, b2, b3]; rfl), (by repeat (first | with_reducible exact Gro.refl _ | with_reducible exact Gro.refl_drew _ _ _ | with_reducible exact Gro.refl_drewN _ _ _ _ | assumption | with_reducible apply Gro.more | with_reducible apply Gro.alloc | with_reducible apply Gro.drew | with_reducible apply Gro.drewN))⟩
          · go_wp2_with (fail)
            go_quiet ((first | (go_at_call 45; with_reducible exact in_iv b1 _ _) | (go_at_call 45; with_reducible exact in_iv b3 _ _) | (go_at_call 45; exact quiet_left (in_i _ _ _ _)) | (go_at_call 42; exact Calls.quiet_of_same (bytesOf_i (Ty.up _ h1 (by repeat (first | with_reducible exact Gro.refl _ | with_reducible exact Gro.refl_drew _ _ _ | with_reducible exact Gro.refl_drewN _ _ _ _ | assumption | with_reducible apply Gro.more | with_reducible apply Gro.alloc | with_reducible apply Gro.drew | with_reducible apply Gro.drewN))) hs))))
            go_wp2
            go_ret
            exact ⟨ret_bool (by rw [HR.out, b1, b2, b3]; rfl), (by repeat (first | with_reducible exact Gro.refl _ | with_reducible exact Gro.refl_drew _ _ _ | with_reducible exact Gro.refl_drewN _ _ _ _ | assumption | with_reducible apply Gro.more | with_reducible apply Gro.alloc | with_reducible apply Gro.drew | with_reducible apply Gro.drewN))⟩
set_option maxRecDepth 100000 in
theorem ringOk_s {r : DRing} {w : World} {A0 : Option Addr} {c0 : Nat} (h1 : (strT.sl 9).R w w.heap.size [.slice A0 r.Records.length c0] r.Records) (hs : sumS r.Records ≤ 1099511627776) :
    Calls Try.prog 43 #[.agg #[.int .i64 r.Capacity, .slice A0 r.Records.length c0, .int .i64 r.Written, .int .i64 r.Lost]] w fun e w' => e = .returned (.bool (ringOk r)) ∧ Gro w w' := by
  obtain ⟨Capacity, rs, Written, Lost⟩ := r
  simp only at h1 hs ⊢
  obtain ⟨_, _, hv, h2, h3⟩ := sl_at h1
  injection hv with hA hn hc
  subst hA hc
  clear hn
  go_enter Try.func43, Try.ntmps43
  go_wp2_with (fail)
  go_loop [3] (fun i => ∃ (j : Nat), j ≤ rs.length ∧ i = .int .i64 j ∧ Hid ((rs.take j).all (fun s => !(s.toList == [])) = true)) (fun i => rs.length - (intOf i).toNat)
  case atStart => exact ⟨0, Nat.zero_le _, rfl, rfl⟩
  case round =>
    obtain ⟨j, hj, rfl, ha⟩ := hrel
    by_cases hlt : j < rs.length
    · obtain ⟨g, off, x, rfl, hxk, hcx, bx⟩ := strs_at h1 hlt
      have hgb := World.block_lt_of_cell? _ _ hcx
      simp only at hgb
      have HX := Lib.hid hxk
      have H1 := Lib.hid h1
      clear hxk h1
      cases hb : x.toList == []
      · go_wp2
        go_round
        case rel => exact ⟨j + 1, by omega, by go_num, all_take_succ HX.out ha.out (by simp [hb])⟩
        case measure => simp [intOf]; omega
      · have HF := Lib.hid (all_false (f := fun s : ByteArray => !(s.toList == [])) HX.out (by simp [hb]))
        go_wp2
        go_ret
        exact ⟨ret_bool (by unfold ringOk; rw [HF.out]; rfl), (by repeat (first | with_reducible exact Gro.refl _ | with_reducible exact Gro.refl_drew _ _ _ | with_reducible exact Gro.refl_drewN _ _ _ _ | assumption | with_reducible apply Gro.more | with_reducible apply Gro.alloc | with_reducible apply Gro.drew | with_reducible apply Gro.drewN))⟩
    · have hje : j = rs.length := by omega
      subst hje
      rw [List.take_length] at ha
      have HR : Hid (ringOk ⟨Capacity, rs, Written, Lost⟩ = (btw Capacity 0 100000 && (decide ((sumS rs : Int) ≤ Capacity) && (btw Written rs.length 1000000000000 && btw Lost 0 1000000000000)))) := by
        show ringOk _ = _
        unfold ringOk
        rw [ha.out]
        rfl
      clear ha
      cases b1 : btw Capacity 0 100000
      · go_wp2_with (fail)
        go_quiet ((first | (go_at_call 68; with_reducible exact in_sv b1 _ _) | (go_at_call 44; exact Calls.quiet_of_same (bytesOf_s (Ty.up _ h1 (by repeat (first | with_reducible exact Gro.refl _ | with_reducible exact Gro.refl_drew _ _ _ | with_reducible exact Gro.refl_drewN _ _ _ _ | assumption | with_reducible apply Gro.more | with_reducible apply Gro.alloc | with_reducible apply Gro.drew | with_reducible apply Gro.drewN))) hs))))
        go_wp2
        go_ret
        exact ⟨ret_bool (by rw [HR.out, b1]; rfl), (by repeat (first | with_reducible exact Gro.refl _ | with_reducible exact Gro.refl_drew _ _ _ | with_reducible exact Gro.refl_drewN _ _ _ _ | assumption | with_reducible apply Gro.more | with_reducible apply Gro.alloc | with_reducible apply Gro.drew | with_reducible apply Gro.drewN))⟩
      · cases b2 : decide ((sumS rs : Int) ≤ Capacity)
        · go_wp2_with (fail)
          go_quiet ((first | (go_at_call 68; with_reducible exact in_sv b1 _ _) | (go_at_call 44; exact Calls.quiet_of_same (bytesOf_s (Ty.up _ h1 (by repeat (first | with_reducible exact Gro.refl _ | with_reducible exact Gro.refl_drew _ _ _ | with_reducible exact Gro.refl_drewN _ _ _ _ | assumption | with_reducible apply Gro.more | with_reducible apply Gro.alloc | with_reducible apply Gro.drew | with_reducible apply Gro.drewN))) hs))))
          go_wp2
          go_ret
          exact ⟨ret_bool (by rw [HR.out, b1, b2]; rfl), (by repeat (first | with_reducible exact Gro.refl _ | with_reducible exact Gro.refl_drew _ _ _ | with_reducible exact Gro.refl_drewN _ _ _ _ | assumption | with_reducible apply Gro.more | with_reducible apply Gro.alloc | with_reducible apply Gro.drew | with_reducible apply Gro.drewN))⟩
        · cases b3 : btw Written rs.length 1000000000000
          · go_wp2_with (fail)
            go_quiet ((first | (go_at_call 68; with_reducible exact in_sv b1 _ _) | (go_at_call 68; with_reducible exact in_sv b3 _ _) | (go_at_call 44; exact Calls.quiet_of_same (bytesOf_s (Ty.up _ h1 (by repeat (first | with_reducible exact Gro.refl _ | with_reducible exact Gro.refl_drew _ _ _ | with_reducible exact Gro.refl_drewN _ _ _ _ | assumption | with_reducible apply Gro.more | with_reducible apply Gro.alloc | with_reducible apply Gro.drew | with_reducible apply Gro.drewN))) hs))))
            go_wp2
            go_ret
            exact ⟨ret_bool (by rw [HR.out, b1, b2, b3]; rfl), (by repeat (first | with_reducible exact Gro.refl _ | with_reducible exact Gro.refl_drew _ _ _ | with_reducible exact Gro.refl_drewN _ _ _ _ | assumption | with_reducible apply Gro.more | with_reducible apply Gro.alloc | with_reducible apply Gro.drew | with_reducible apply Gro.drewN))⟩
          · go_wp2_with (fail)
            go_quiet ((first | (go_at_call 68; with_reducible exact in_sv b1 _ _) | (go_at_call 68; with_reducible exact in_sv b3 _ _) | (go_at_call 68; exact quiet_left (in_s _ _ _ _)) | (go_at_call 44; exact Calls.quiet_of_same (bytesOf_s (Ty.up _ h1 (by repeat (first | with_reducible exact Gro.refl _ | with_reducible exact Gro.refl_drew _ _ _ | with_reducible exact Gro.refl_drewN _ _ _ _ | assumption | with_reducible apply Gro.more | with_reducible apply Gro.alloc | with_reducible apply Gro.drew | with_reducible apply Gro.drewN))) hs))))
            go_wp2
            go_ret
            exact ⟨ret_bool (by rw [HR.out, b1, b2, b3]; rfl), (by repeat (first | with_reducible exact Gro.refl _ | with_reducible exact Gro.refl_drew _ _ _ | with_reducible exact Gro.refl_drewN _ _ _ _ | assumption | with_reducible apply Gro.more | with_reducible apply Gro.alloc | with_reducible apply Gro.drew | with_reducible apply Gro.drewN))⟩
theorem el_str : Elem Try.prog 36 9 strT 16 := by
  obtain ⟨i0, hi, hz0, hz1, hz2⟩ := info_parts toStringS_info
  exact ⟨Try.underlying36, ⟨i0, _, hi, hz0, hz1, hz2, rfl⟩, by decide⟩
set_option maxRecDepth 100000 in
theorem copyRing_i {r : DRing} {w : World} {A0 : Option Addr} {c0 : Nat} (h0 : I64 r.Capacity) (h1 : (strT.sl 9).R w w.heap.size [.slice A0 r.Records.length c0] r.Records) (h2 : I64 r.Written) (h3 : I64 r.Lost) (hs : r.Records.length ≤ 1099511627776) :
    Calls Try.prog 40 #[.agg #[.int .i64 r.Capacity, .slice A0 r.Records.length c0, .int .i64 r.Written, .int .i64 r.Lost]] w (RetRing r w) := by
  go_enter Try.func40, Try.ntmps40
  go_wp2_with (at_builtin; refine wpList_append_flat rfl (.tmp 3) (.tmp 5) el_str flat_str (fresh_empty (Gro.refl _) (by simp)) ((Gro.refl _).alloc _) (Ty.up _ h1 (by repeat (first | with_reducible exact Gro.refl _ | with_reducible exact Gro.refl_drew _ _ _ | with_reducible exact Gro.refl_drewN _ _ _ _ | assumption | with_reducible apply Gro.more | with_reducible apply Gro.alloc | with_reducible apply Gro.drew | with_reducible apply Gro.drewN))) rfl rfl rfl (Nat.zero_add _).symm (by omega) (by omega) ?_; intro B0 d0 os d hF)
  refine bodyPost_ret (v := .agg #[.int .i64 r.Capacity, .slice B0 r.Records.length d0, .int .i64 r.Written, .int .i64 r.Lost]) (by simp [results, Try.results40, go_sem]) rfl ⟨B0, d0, rfl, ?_, (by repeat (first | with_reducible exact Gro.refl _ | with_reducible exact Gro.refl_drew _ _ _ | with_reducible exact Gro.refl_drewN _ _ _ _ | assumption | with_reducible apply Gro.more | with_reducible apply Gro.alloc | with_reducible apply Gro.drew | with_reducible apply Gro.drewN))⟩
  exact tRing_fresh h0 (hF.fre.same (by repeat (first | with_reducible exact Same.refl _ _ _ | ((with_reducible refine Same.base ?_ ?_) <;> (simp <;> omega)) | ((with_reducible refine Same.more ?_ ?_ _ _); rotate_left; simp <;> omega) | ((with_reducible refine Same.alloc ?_ ?_ _); rotate_left; simp <;> omega) | with_reducible apply Same.drew | with_reducible apply Same.drewN))) h2 h3 (by simp; omega)
end Go.Proofs.Ytdlkoffandhclaa
