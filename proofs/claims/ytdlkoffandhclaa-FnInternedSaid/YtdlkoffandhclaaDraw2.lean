/-
  DRAW, PART 2: drawn stacks: each can be written and is not empty.
-/
import Derived.Test.YtdlkoffandhclaaDraw
import Derived.Test.YtdlkoffandhclaaStacks3
import Derived.Test.YtdlkoffandhclaaBox2
import Derived.Deep.RegionWith
import Derived.Deep.RegionLaw
set_option linter.unusedVariables false
set_option linter.unusedSimpArgs false
namespace Go.Proofs.Ytdlkoffandhclaa
open Go.RowKit
def stk (fs : List DFrame) : Prop := fs ≠ [] ∧ fs.all frameOk = true
theorem stk_snoc {fs : List DFrame} {nm : ByteArray} {n : Int} (h : stk fs) (hn : nameOk nm = true) (hl : 0 ≤ n ∧ n ≤ 59) : stk (fs ++ [⟨nm, n⟩]) := by
  refine ⟨by simp, ?_⟩
  rw [List.all_append, h.2]
  simp [frameOk, hn, btw_mk hl.1 hl.2]
theorem lit3 {x : Nat} (h : (x : Int) < 3) : ∃ nm : ByteArray, (#[Value.string { data := #[102] }, Value.string { data := #[103, 103] }, Value.string { data := #[104] }] : Array Value)[x]? = some (.string nm) ∧ nameOk nm = true ∧ nm.size ≤ 9 := by
  have : x = 0 ∨ x = 1 ∨ x = 2 := by omega
  rcases this with rfl | rfl | rfl
  · exact ⟨_, rfl, by decide, by decide⟩
  · exact ⟨_, rfl, by decide, by decide⟩
  · exact ⟨_, rfl, by decide, by decide⟩
set_option maxRecDepth 100000 in
set_option maxHeartbeats 2000000 in
theorem stack_s {w W : World} {k : Nat} (hC : Cur w W k) : Calls Try.prog 48 #[.pointer (some ⟨k, 0, none⟩)] W fun e W' => ∃ A c fs, e = .returned (.slice A fs.length c) ∧ stk fs ∧ fs.length ≤ 4 ∧ Cur w W' k ∧ OnlyS [k] W W' ∧ FrN (tFrame.sl 63) W.heap.size W'.heap.size W' [.slice A fs.length c] fs := by
  go_enter Try.func48, Try.ntmps48
  go_wp2_with (fail)
  refine (below_s hC 3 (by decide) (by decide)).mono ?_
  rintro e W1 ⟨x1, rfl, hx1, hC1, hS1⟩
  go_wp2_with (fail)
  refine (below_s (hC1.more (by repeat (first | with_reducible exact Gro.refl _ | with_reducible exact Gro.refl_drew _ _ _ | with_reducible exact Gro.refl_drewN _ _ _ _ | assumption | with_reducible apply Gro.more | with_reducible apply Gro.alloc | with_reducible apply Gro.drew | with_reducible apply Gro.drewN))) 4 (by decide) (by decide)).mono ?_
  rintro e W2 ⟨x2, rfl, hx2, hC2, hS2⟩
  go_wp2_with (fail)
  go_loopw [3, 4] (fun a b wr => ∃ (j : Nat) (A : Option Addr) (c : Nat) (fs : List DFrame), a = .slice A fs.length c ∧ b = .int .i64 j ∧ j + fs.length ≤ 4 ∧ Hid (stk fs) ∧ Cur w wr k ∧ OnlyS [k] W wr ∧ FrN (tFrame.sl 63) W.heap.size wr.heap.size wr [.slice A fs.length c] fs) (fun _ b _ => (intOf b).toNat)
  case atStart =>
    have h0 : FrN (tFrame.sl 63) W.heap.size (W1.heap.size + 1) (W1.alloc (.cells #[.string { data := #[109, 97, 105, 110] }, .int .i64 (1 + x1)] 63)) [.slice (some ⟨W1.heap.size, 0, none⟩) 1 1] [⟨{ data := #[109, 97, 105, 110] }, 1 + x1⟩] := by
      have h1 := fresh_one (e := 63) flatFrame (W0 := W1) (W := W1) (W1 := w) (B := 0) (ec := [.string { data := #[109, 97, 105, 110] }, .int .i64 (1 + x1)]) (x := ⟨{ data := #[109, 97, 105, 110] }, 1 + x1⟩) (tFrame_mkR (x := ⟨{ data := #[109, 97, 105, 110] }, 1 + x1⟩) (by simp only; decide) ⟨by simp only; omega, by simp only; omega⟩) (Gro.refl _) rfl
      exact h1.frN.wide hS1.size (by simp)
    exact ⟨x2, _, 1, [⟨{ data := #[109, 97, 105, 110] }, 1 + x1⟩], rfl, rfl, by simp only [List.length_cons, List.length_nil]; omega, Lib.hid ⟨by simp, by simp [frameOk, show nameOk { data := #[109, 97, 105, 110] } = true by decide]; exact btw_mk (by omega) (by omega)⟩, hC2, (hS1.trans (Gro.only (by repeat (first | with_reducible exact Gro.refl _ | with_reducible exact Gro.refl_drew _ _ _ | with_reducible exact Gro.refl_drewN _ _ _ _ | assumption | with_reducible apply Gro.more | with_reducible apply Gro.alloc | with_reducible apply Gro.drew | with_reducible apply Gro.drewN)) _)).trans hS2, (h0.only hS2 hC.lt).wide (Nat.le_refl _) (by have := hS2.size; simpa using this)⟩
  case round =>
    obtain ⟨j, A, c, fs, rfl, rfl, hj, hst, hC3, hS3, hF3⟩ := hrel
    by_cases hlt : 0 < j
    · go_wp2_with (fail)
      have hkl := hC3.lt
      have hkW := hC.lt
      have hWr := hS3.size
      go_region_law (first
        | (go_simp; go_at_call 47; (with_reducible refine (below_s (hC4.more (by (repeat (first | with_reducible exact Gro.refl _ | with_reducible exact Gro.refl_drew _ _ _ | with_reducible exact Gro.refl_drewN _ _ _ _ | assumption | with_reducible apply Gro.more | with_reducible apply Gro.alloc | with_reducible apply Gro.drew | with_reducible apply Gro.drewN)); done)) 3 (by decide) (by decide)).mono ?_); rintro e W5 ⟨x5, rfl, hx5, hC5, hS5⟩; have hSS : OnlyS [k] wr W5 := (Gro.only (by repeat (first | with_reducible exact Gro.refl _ | with_reducible exact Gro.refl_drew _ _ _ | with_reducible exact Gro.refl_drewN _ _ _ _ | assumption | with_reducible apply Gro.more | with_reducible apply Gro.alloc | with_reducible apply Gro.drew | with_reducible apply Gro.drewN)) _).trans (hS4.trans ((Gro.only (by repeat (first | with_reducible exact Gro.refl _ | with_reducible exact Gro.refl_drew _ _ _ | with_reducible exact Gro.refl_drewN _ _ _ _ | assumption | with_reducible apply Gro.more | with_reducible apply Gro.alloc | with_reducible apply Gro.drew | with_reducible apply Gro.drewN)) _).trans hS5)); have hF5 := hF3.only hSS hkW; have hz5 := hSS.size; have hwr : IntKind.i64.wrap (4 + (x5 : Int)) = 4 + x5 := IntWalk.i64_in _ ⟨by omega, by omega⟩; (try have hcl := (hS5.cell (g := wr.heap.size) (by have := hS4.size; simp at this; simp; omega) (by simp; omega) x4).trans hcl); have hl4 := hC4.lt; (try have hcl2 := (hS5.cell (g := W4.heap.size) (by simp) (by simp; omega) x4).trans (show _ = some (Value.string nm) from by simpa [go_sem] using hnm)))
        | (go_simp; go_at_call 47; (with_reducible refine (below_s (hC3.more (by (repeat (first | with_reducible exact Gro.refl _ | with_reducible exact Gro.refl_drew _ _ _ | with_reducible exact Gro.refl_drewN _ _ _ _ | assumption | with_reducible apply Gro.more | with_reducible apply Gro.alloc | with_reducible apply Gro.drew | with_reducible apply Gro.drewN)); done)) 3 (by decide) (by decide)).mono ?_); rintro e W4 ⟨x4, rfl, hx4, hC4, hS4⟩; obtain ⟨nm, hnm, hok, hsz⟩ := lit3 hx4; try have hcl := (hS4.cell (g := wr.heap.size) (by simp) (by simp; omega) x4).trans (show _ = some (Value.string nm) from by simpa [go_sem] using hnm))
        | (refine step_append_up (lo := W.heap.size) (L := fs.length + 1) rfl (.tmp 16) (.tmp 26) elFrame flatFrame (hF5.gro (by (repeat (first | with_reducible exact Gro.refl _ | with_reducible exact Gro.refl_drew _ _ _ | with_reducible exact Gro.refl_drewN _ _ _ _ | assumption | with_reducible apply Gro.more | with_reducible apply Gro.alloc | with_reducible apply Gro.drew | with_reducible apply Gro.drewN)); done)) (by simp; omega) (by simp; omega) (W1 := w) (B := 0) (ec := [.string nm, .int .i64 (4 + x5)]) (y := ⟨nm, 4 + x5⟩) (tFrame_mkR (x := ⟨nm, 4 + x5⟩) (by simp only; omega) ⟨by simp only; omega, by simp only; omega⟩) rfl rfl rfl (by intro j u hu; simpa [go_sem, hwr] using hu) rfl (by omega) (by omega) ?_; intro A6 c6 W6 hb6 hF6))
      all_goals go_wp2_with (fail)
      all_goals go_roundw
      all_goals try (case measure => simp [intOf]; omega)
      all_goals refine ⟨j - 1, A6, c6, fs ++ [⟨nm, 4 + x5⟩], by simp, by go_num, by simp only [List.length_append, List.length_cons, List.length_nil]; omega, Lib.hid (stk_snoc hst.out hok ⟨by omega, by omega⟩), (hC5.more (by repeat (first | with_reducible exact Gro.refl _ | with_reducible exact Gro.refl_drew _ _ _ | with_reducible exact Gro.refl_drewN _ _ _ _ | assumption | with_reducible apply Gro.more | with_reducible apply Gro.alloc | with_reducible apply Gro.drew | with_reducible apply Gro.drewN))).below hb6 hkW, (hS3.trans (hSS.trans (Gro.only (by repeat (first | with_reducible exact Gro.refl _ | with_reducible exact Gro.refl_drew _ _ _ | with_reducible exact Gro.refl_drewN _ _ _ _ | assumption | with_reducible apply Gro.more | with_reducible apply Gro.alloc | with_reducible apply Gro.drew | with_reducible apply Gro.drewN)) _))).below hb6 (Nat.le_refl _), by rw [List.length_append]; exact hF6⟩
    · obtain rfl : j = 0 := by omega
      go_wp2_with (fail)
      go_ret
      exact ⟨A, c, fs, rfl, hst.out, by omega, hC3, hS3, hF3⟩
theorem elStk : Elem Try.prog 48 52 (tFrame.sl 63) 24 := by
  refine ⟨Try.underlying48, ?_, by decide⟩
  have h : (Try.prog.info? 52).map (fun i => (i.zero, i.size, i.bytes)) = some (some (.slice none 0 0), 1, 24) := by kernel_rfl
  cases hi : Try.prog.info? 52 with
  | none => rw [hi] at h; simp at h
  | some i =>
    rw [hi] at h
    simp only [Option.map_some, Option.some.injEq, Prod.mk.injEq] at h
    exact ⟨i, _, rfl, h.1, h.2.1, h.2.2, rfl⟩
def stks (l : List (List DFrame)) : Prop := ∀ s ∈ l, stk s ∧ s.length ≤ 4
set_option maxRecDepth 100000 in
set_option maxHeartbeats 2000000 in
theorem stacks_s {w : World} {A : Option Addr} {n c : Nat} {xs : List UInt8} (hx : (byteT.sl 5).R w w.heap.size [.slice A n c] xs) (hl : xs.length ≤ 1099511627776) : Calls Try.prog 21 #[.slice A n c] w fun e W' => ∃ A' c' l, e = .returned (.slice A' l.length c') ∧ stks l ∧ l.length ≤ 7 ∧ Gro w W' ∧ Fresh ((tFrame.sl 63).sl 52) w W' [.slice A' l.length c'] l := by
  go_enter Try.func21, Try.ntmps21
  go_wp2_with (fail)
  refine (new_s hx hl).mono ?_
  rintro e W1 ⟨k, rfl, hC1⟩
  go_wp2_with (fail)
  refine (below_s (hC1.more (by repeat (first | with_reducible exact Gro.refl _ | with_reducible exact Gro.refl_drew _ _ _ | with_reducible exact Gro.refl_drewN _ _ _ _ | assumption | with_reducible apply Gro.more | with_reducible apply Gro.alloc | with_reducible apply Gro.drew | with_reducible apply Gro.drewN))) 8 (by decide) (by decide)).mono ?_
  rintro e W2 ⟨x2, rfl, hx2, hC2, hS2⟩
  have hk1 := hC1.lt
  have hz2 := hS2.size
  simp at hz2
  have hlo := hC1.lo
  go_wp2_with (fail)
  go_loopw [4, 5] (fun a b wr => ∃ (j : Nat) (A' : Option Addr) (c' : Nat) (l : List (List DFrame)), a = .slice A' l.length c' ∧ b = .int .i64 j ∧ j + l.length ≤ 7 ∧ Hid (stks l) ∧ Cur w wr k ∧ k + 1 ≤ wr.heap.size ∧ FrN ((tFrame.sl 63).sl 52) (k + 1) wr.heap.size wr [.slice A' l.length c'] l) (fun _ b _ => (intOf b).toNat)
  case atStart =>
    have h0 : FrN ((tFrame.sl 63).sl 52) (k + 1) (W1.heap.size + 1) (W1.alloc (.cells #[] 52)) [.slice (some ⟨W1.heap.size, 0, none⟩) 0 0] [] :=
      ⟨[W1.heap.size], own_made (xs := []) (heap_alloc_new W1 _) (show Rows _ _ _ [] [] from ⟨rfl, rfl⟩) (by simp), by simp, fun b hb => by simp at hb; omega⟩
    exact ⟨x2, _, 0, [], rfl, rfl, by simp only [List.length_nil]; omega, Lib.hid (fun s hs => by cases hs), hC2, by omega, (h0.only hS2 (by omega)).wide (Nat.le_refl _) (by have := hS2.size; simpa using this)⟩
  case round =>
    obtain ⟨j, A', c', l, rfl, rfl, hj, hst, hC3, hz3, hF3⟩ := hrel
    by_cases hlt : 0 < j
    · go_wp2_with (fail)
      refine (stack_s (hC3.more (by repeat (first | with_reducible exact Gro.refl _ | with_reducible exact Gro.refl_drew _ _ _ | with_reducible exact Gro.refl_drewN _ _ _ _ | assumption | with_reducible apply Gro.more | with_reducible apply Gro.alloc | with_reducible apply Gro.drew | with_reducible apply Gro.drewN)))).mono ?_
      rintro e W4 ⟨A4, c4, fs, rfl, hfs, hfl, hC4, hS4, hF4⟩
      have hz4 := hS4.size
      have hF5 := hF3.only hS4 (by omega)
      go_wp2_with (refine wpList_append_up (lo := k + 1) (L := l.length + 1) rfl (.tmp 15) (.tmp 18) elStk (We := wr) (ec := [.slice A4 fs.length c4]) (y := fs) (hF5.gro (by (repeat (first | with_reducible exact Gro.refl _ | with_reducible exact Gro.refl_drew _ _ _ | with_reducible exact Gro.refl_drewN _ _ _ _ | assumption | with_reducible apply Gro.more | with_reducible apply Gro.alloc | with_reducible apply Gro.drew | with_reducible apply Gro.drewN)); done)) (by simp; omega) ((hF4.gro (by repeat (first | with_reducible exact Gro.refl _ | with_reducible exact Gro.refl_drew _ _ _ | with_reducible exact Gro.refl_drewN _ _ _ _ | assumption | with_reducible apply Gro.more | with_reducible apply Gro.alloc | with_reducible apply Gro.drew | with_reducible apply Gro.drewN))).fresh (Nat.le_refl _)) (Nat.le_refl _) hz3 rfl rfl rfl (by intro j u hu; simpa [go_sem] using hu) rfl (by omega) (by omega) ?_; intro A6 c6 W6 hb6 hF6)
      go_roundw
      case measure => simp [intOf]; omega
      case rel =>
        have hz6 := hb6.size
        simp at hz6
        refine ⟨j - 1, A6, c6, l ++ [fs], by simp, by go_num, by simp only [List.length_append, List.length_cons, List.length_nil]; omega, Lib.hid (fun s hs => ?_), (hC4.more (by repeat (first | with_reducible exact Gro.refl _ | with_reducible exact Gro.refl_drew _ _ _ | with_reducible exact Gro.refl_drewN _ _ _ _ | assumption | with_reducible apply Gro.more | with_reducible apply Gro.alloc | with_reducible apply Gro.drew | with_reducible apply Gro.drewN))).below hb6 (by omega), by omega, by rw [List.length_append]; exact hF6⟩
        rcases List.mem_append.1 hs with h | h
        · exact hst.out s h
        · rw [List.mem_singleton] at h
          subst h
          exact ⟨hfs, hfl⟩
    · obtain rfl : j = 0 := by omega
      go_wp2_with (fail)
      go_ret
      exact ⟨A', c', l, rfl, hst.out, by omega, hC3.gro, hF3.fresh (by omega)⟩
end Go.Proofs.Ytdlkoffandhclaa
