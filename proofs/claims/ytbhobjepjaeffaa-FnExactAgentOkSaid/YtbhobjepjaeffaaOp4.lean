/-
  OP, PART 4: Disassemble, as far as whether it can be done.
-/
import Derived.Test.YtbhobjepjaeffaaOp3
import Derived.Test.YtbhobjepjaeffaaTyOp
set_option linter.unusedVariables false
set_option linter.unusedSimpArgs false
namespace Go.Proofs.Ytbhobjepjaeffaa
open Go.RowKit
def RetDis (b : Bool) (w : World) (e : Ending) (w' : World) : Prop := ∃ A n c, e = .returned (.tuple #[.slice A n c, .bool b]) ∧ Gro w w'
set_option maxRecDepth 100000 in
set_option maxHeartbeats 4000000 in
theorem dis_i (s : ByteArray) (w : World) (hs : s.size ≤ 1099511627776) : Calls Try.prog 113 #[.string s] w (RetDis (disOk s 0) w) := by
  go_enter Try.func113, Try.ntmps113
  go_wp2_with (fail)
  have en := heap_alloc_new w (.cells #[] 166)
  go_loopw [4, 5] (fun x y wr => ∃ (a : Nat) (l : List DOp) (A : Option Addr) (c : Nat) (S : List Nat), x = .slice A l.length c ∧ y = .int .i64 a ∧ a ≤ s.size ∧ l.length ≤ a ∧ Has (tOp.sl 166) wr [.slice A l.length c] l S ∧ (∀ b ∈ S, w.heap.size ≤ b) ∧ Hid (disOk s a = disOk s 0) ∧ Hid (Gro w wr)) (fun _ y _ => s.size - (intOf y).toNat)
  case atStart => exact ⟨0, [], _, 0, [w.heap.size], rfl, rfl, Nat.zero_le _, Nat.le_refl _, Has.emp tOp en, by simp, Lib.hid rfl, Lib.hid (by repeat (first | with_reducible exact Gro.refl _ | with_reducible exact Gro.refl_drew _ _ _ | with_reducible exact Gro.refl_drewN _ _ _ _ | assumption | with_reducible apply Gro.more | with_reducible apply Gro.alloc | with_reducible apply Gro.drew | with_reducible apply Gro.drewN))⟩
  case round =>
    clear en
    obtain ⟨a, l, A, c, S, rfl, rfl, ha, hl, hH, hS, hd, hG⟩ := hrel
    by_cases hlt : a < s.size
    · have ha64 : I64 (a : Int) := ⟨by omega, by omega⟩
      obtain ⟨r, hr⟩ : ∃ r, decOp s (a : Int) = r := ⟨_, rfl⟩
      have hk := decOp_ok hr
      have har := decOp_arg hr
      cases hrk : r.ok with
      | false =>
        have HQ := Lib.hid (show disOk s 0 = false from by rw [← hd.out]; exact disOk_bad hlt (by rw [hr]; exact hrk))
        have hz := decOp_zero hr hrk
        subst hz
        have HR := Lib.hid hr
        clear hr hrk hk
        go_wp2_with (go_at_call 131; (with_reducible refine (decodeOp_i s (a : Int) _ hs ha64).mono ?_); rw [HR.out]; rintro e w4 ⟨rfl, os4, d4, rfl⟩)
        go_ret2
        exact ⟨_, _, _, by rw [HQ.out]; rfl, hG.out.trans (by (repeat (first | with_reducible exact Gro.refl _ | with_reducible exact Gro.refl_drew _ _ _ | with_reducible exact Gro.refl_drewN _ _ _ _ | assumption | with_reducible apply Gro.more | with_reducible apply Gro.alloc | with_reducible apply Gro.drew | with_reducible apply Gro.drewN)); done)⟩
      | true =>
        obtain ⟨k0, k1, k2, k3, k4, k5⟩ := hk hrk
        obtain ⟨co, ar, n, okk⟩ := r
        simp only at hrk k0 k1 k2 k3 k4 k5 har
        subst hrk
        have HST := Lib.hid (show disOk s (a + n) = disOk s 0 from by rw [← hd.out, disOk_step hlt (by rw [hr]), hr])
        have HR := Lib.hid hr
        clear hr hk
        have hxR : tOp.R w 0 [.int .i64 co, .int .i64 ar] ⟨co, ar⟩ := tOp_mkR (x := ⟨co, ar⟩) ⟨by simp only; omega, by simp only; omega⟩ ⟨by simp only; omega, by simp only; omega⟩
        go_wp2_with (first
          | (go_at_call 131; (with_reducible refine (decodeOp_i s (a : Int) _ hs ha64).mono ?_); rw [HR.out]; rintro e w4 ⟨rfl, os4, d4, rfl⟩)
          | (refine wpList_append_hasf (L := l.length + 1) (y := (⟨co, ar⟩ : DOp)) rfl (.tmp 23) (.tmp 25) elOp flatOp (S := S) (hH.gro (by (repeat (first | with_reducible exact Gro.refl _ | with_reducible exact Gro.refl_drew _ _ _ | with_reducible exact Gro.refl_drewN _ _ _ _ | assumption | with_reducible apply Gro.more | with_reducible apply Gro.alloc | with_reducible apply Gro.drew | with_reducible apply Gro.drewN)); done)) (ec := [.int .i64 co, .int .i64 ar]) (W1 := w) (B := 0) hxR rfl rfl rfl (by intro j u hu; simpa [go_sem] using hu) rfl (by omega) (by omega) ?_; intro A7 c7 W7 S7 hon hH7 hS7))
        go_roundw
        case measure => (simp [intOf]; try omega)
        case rel =>
          refine ⟨a + n, l ++ [⟨co, ar⟩], A7, c7, S7, by rw [List.length_append]; rfl, by go_num, by omega, by rw [List.length_append, List.length_singleton]; omega, by rw [List.length_append]; exact hH7, fun b hb => ?_, HST, Lib.hid (hon.gro (hG.out.trans (by (repeat (first | with_reducible exact Gro.refl _ | with_reducible exact Gro.refl_drew _ _ _ | with_reducible exact Gro.refl_drewN _ _ _ _ | assumption | with_reducible apply Gro.more | with_reducible apply Gro.alloc | with_reducible apply Gro.drew | with_reducible apply Gro.drewN)); done)) hS)⟩
          rcases hS7 b hb with h | h
          · exact hS b h
          · have := hG.out.size
            simp at h
            omega
    · obtain rfl : a = s.size := by omega
      have HQ := Lib.hid (show disOk s 0 = true from by rw [← hd.out]; exact disOk_end (Nat.le_refl _))
      go_wp2_with (fail)
      go_ret2
      exact ⟨_, _, _, by rw [HQ.out]; rfl, hG.out⟩
set_option maxRecDepth 100000 in
set_option maxHeartbeats 4000000 in
theorem dis_s (s : ByteArray) (w : World) (hs : s.size ≤ 1099511627776) : Calls Try.prog 111 #[.string s] w (RetDis (disOk s 0) w) := by
  go_enter Try.func111, Try.ntmps111
  go_wp2_with (fail)
  have en := heap_alloc_new w (.cells #[] 166)
  go_loopw [4, 5] (fun x y wr => ∃ (a : Nat) (l : List DOp) (A : Option Addr) (c : Nat) (S : List Nat), x = .slice A l.length c ∧ y = .int .i64 a ∧ a ≤ s.size ∧ l.length ≤ a ∧ Has (tOp.sl 166) wr [.slice A l.length c] l S ∧ (∀ b ∈ S, w.heap.size ≤ b) ∧ Hid (disOk s a = disOk s 0) ∧ Hid (Gro w wr)) (fun _ y _ => s.size - (intOf y).toNat)
  case atStart => exact ⟨0, [], _, 0, [w.heap.size], rfl, rfl, Nat.zero_le _, Nat.le_refl _, Has.emp tOp en, by simp, Lib.hid rfl, Lib.hid (by repeat (first | with_reducible exact Gro.refl _ | with_reducible exact Gro.refl_drew _ _ _ | with_reducible exact Gro.refl_drewN _ _ _ _ | assumption | with_reducible apply Gro.more | with_reducible apply Gro.alloc | with_reducible apply Gro.drew | with_reducible apply Gro.drewN))⟩
  case round =>
    clear en
    obtain ⟨a, l, A, c, S, rfl, rfl, ha, hl, hH, hS, hd, hG⟩ := hrel
    by_cases hlt : a < s.size
    · have ha64 : I64 (a : Int) := ⟨by omega, by omega⟩
      obtain ⟨r, hr⟩ : ∃ r, decOp s (a : Int) = r := ⟨_, rfl⟩
      have hk := decOp_ok hr
      have har := decOp_arg hr
      cases hrk : r.ok with
      | false =>
        have HQ := Lib.hid (show disOk s 0 = false from by rw [← hd.out]; exact disOk_bad hlt (by rw [hr]; exact hrk))
        have hz := decOp_zero hr hrk
        subst hz
        have HR := Lib.hid hr
        clear hr hrk hk
        go_wp2_with (go_at_call 134; (with_reducible refine (decodeOp_s s (a : Int) _ hs ha64).mono ?_); rw [HR.out]; rintro e w4 ⟨rfl, os4, d4, rfl⟩)
        go_ret2
        exact ⟨_, _, _, by rw [HQ.out]; rfl, hG.out.trans (by (repeat (first | with_reducible exact Gro.refl _ | with_reducible exact Gro.refl_drew _ _ _ | with_reducible exact Gro.refl_drewN _ _ _ _ | assumption | with_reducible apply Gro.more | with_reducible apply Gro.alloc | with_reducible apply Gro.drew | with_reducible apply Gro.drewN)); done)⟩
      | true =>
        obtain ⟨k0, k1, k2, k3, k4, k5⟩ := hk hrk
        obtain ⟨co, ar, n, okk⟩ := r
        simp only at hrk k0 k1 k2 k3 k4 k5 har
        subst hrk
        have HST := Lib.hid (show disOk s (a + n) = disOk s 0 from by rw [← hd.out, disOk_step hlt (by rw [hr]), hr])
        have HR := Lib.hid hr
        clear hr hk
        have hxR : tOp.R w 0 [.int .i64 co, .int .i64 ar] ⟨co, ar⟩ := tOp_mkR (x := ⟨co, ar⟩) ⟨by simp only; omega, by simp only; omega⟩ ⟨by simp only; omega, by simp only; omega⟩
        go_wp2_with (first
          | (go_at_call 134; (with_reducible refine (decodeOp_s s (a : Int) _ hs ha64).mono ?_); rw [HR.out]; rintro e w4 ⟨rfl, os4, d4, rfl⟩)
          | (refine wpList_append_hasf (L := l.length + 1) (y := (⟨co, ar⟩ : DOp)) rfl (.tmp 24) (.tmp 26) elOp flatOp (S := S) (hH.gro (by (repeat (first | with_reducible exact Gro.refl _ | with_reducible exact Gro.refl_drew _ _ _ | with_reducible exact Gro.refl_drewN _ _ _ _ | assumption | with_reducible apply Gro.more | with_reducible apply Gro.alloc | with_reducible apply Gro.drew | with_reducible apply Gro.drewN)); done)) (ec := [.int .i64 co, .int .i64 ar]) (W1 := w) (B := 0) hxR rfl rfl rfl (by intro j u hu; simpa [go_sem] using hu) rfl (by omega) (by omega) ?_; intro A7 c7 W7 S7 hon hH7 hS7))
        go_roundw
        case measure => (simp [intOf]; try omega)
        case rel =>
          refine ⟨a + n, l ++ [⟨co, ar⟩], A7, c7, S7, by rw [List.length_append]; rfl, by go_num, by omega, by rw [List.length_append, List.length_singleton]; omega, by rw [List.length_append]; exact hH7, fun b hb => ?_, HST, Lib.hid (hon.gro (hG.out.trans (by (repeat (first | with_reducible exact Gro.refl _ | with_reducible exact Gro.refl_drew _ _ _ | with_reducible exact Gro.refl_drewN _ _ _ _ | assumption | with_reducible apply Gro.more | with_reducible apply Gro.alloc | with_reducible apply Gro.drew | with_reducible apply Gro.drewN)); done)) hS)⟩
          rcases hS7 b hb with h | h
          · exact hS b h
          · have := hG.out.size
            simp at h
            omega
    · obtain rfl : a = s.size := by omega
      have HQ := Lib.hid (show disOk s 0 = true from by rw [← hd.out]; exact disOk_end (Nat.le_refl _))
      go_wp2_with (fail)
      go_ret2
      exact ⟨_, _, _, by rw [HQ.out]; rfl, hG.out⟩
end Go.Proofs.Ytbhobjepjaeffaa
