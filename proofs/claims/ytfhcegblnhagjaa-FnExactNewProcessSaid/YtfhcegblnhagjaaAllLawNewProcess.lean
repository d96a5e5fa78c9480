/-
  The law FnExactNewProcess answers true for every input: the program and the reference compute the same; the arguments stay; the result is of its own memory. No condition.
-/
import Derived.Test.YtfhcegblnhagjaaProcOk
import Derived.Test.YtfhcegblnhagjaaAllBLawNewProcess
import Derived.Deep.RegionHeld3
import Derived.OrdersHeld
import Derived.RegionTactic
import Derived.Test.YtfhcegblnhagjaaBase
import Derived.Test.YtfhcegblnhagjaaOwn
import Derived.Test.YtfhcegblnhagjaaFnProcess
import Derived.Test.YtfhcegblnhagjaaRows
import Derived.Test.YtfhcegblnhagjaaOpen
import Derived.ShutString
set_option linter.unusedVariables false
set_option linter.unusedSimpArgs false
namespace Go.Proofs.Ytfhcegblnhagjaa
open Go.RowKit
def zeroM : DMachine := ⟨0, 0, 0, [], [], 0, 0⟩
def newM (s : DSpace) : DMachine × Bool := if spaceOk s = true then (⟨s.Entries.headD 0, 1199, 1200, List.replicate 1200 0, [], 0, 0⟩, true) else (zeroM, false)
def RetMachB (p : DMachine × Bool) (w : World) (e : Ending) (w' : World) : Prop := ∃ A0 c0 A1 c1, e = .returned (.tuple #[.agg #[.int .i64 p.1.Pc, .int .i64 p.1.Sp, .int .i64 p.1.Fp, .slice A0 p.1.Stack.length c0, .slice A1 p.1.Out.length c1, .int .i64 p.1.State, .int .i64 p.1.Value], .bool p.2]) ∧ Fresh tMachine w w' [.int .i64 p.1.Pc, .int .i64 p.1.Sp, .int .i64 p.1.Fp, .slice A0 p.1.Stack.length c0, .slice A1 p.1.Out.length c1, .int .i64 p.1.State, .int .i64 p.1.Value] p.1 ∧ Gro w w'
theorem rows_zeros (w : World) : ∀ n, Rows intT w (List.replicate n (.int .i64 0)) (List.replicate n 0) []
  | 0 => by simp [Rows]
  | n + 1 => by
    rw [List.replicate_succ, List.replicate_succ]
    exact ⟨[.int .i64 0], List.replicate n (.int .i64 0), [], [], rfl, rfl, ⟨rfl, by decide, by decide, rfl⟩, rows_zeros w n⟩
theorem made_zeros (n : Nat) : (madeCells #[.int .i64 0] n).toList = List.replicate n (.int .i64 0) := by
  apply List.ext_getElem
  · simp [madeCells]
  · intro i h1 h2
    simp [madeCells, Nat.mod_one]
theorem fresh_zeros {w X : World} {g : Nat} (hg : X.heap[g]? = some (.cells (madeCells #[.int .i64 0] 1200) 3 (0, 0))) (hl : w.heap.size ≤ g) : Fresh (intT.sl 3) w X [.slice (some ⟨g, 0, none⟩) (List.replicate 1200 (0 : Int)).length 1200] (List.replicate 1200 0) := by
  have h := own_made (T := intT) (xs := List.replicate 1200 (0 : Int)) (S := []) hg (by rw [made_zeros]; exact rows_zeros X 1200) (by rw [List.length_replicate]; decide)
  have e : (List.replicate 1200 (0 : Int)).length = 1200 := List.length_replicate
  rw [e] at h ⊢
  exact ⟨[g], h, by simp, by simpa using hl⟩
theorem zeroM_fresh (w W : World) (h : w.heap.size ≤ W.heap.size) : Fresh tMachine w W [.int .i64 0, .int .i64 0, .int .i64 0, .slice none 0 0, .slice none 0 0, .int .i64 0, .int .i64 0] zeroM :=
  tMachine_fresh (x := zeroM) ⟨by decide, by decide⟩ ⟨by decide, by decide⟩ ⟨by decide, by decide⟩ (fresh_nil W W).fre (fresh_nil W W).fre ⟨by decide, by decide⟩ ⟨by decide, by decide⟩ h h (.inl (Nat.le_refl _))
set_option maxRecDepth 100000 in
set_option maxHeartbeats 4000000 in
theorem newM_i {s : DSpace} {w : World} {A0 A1 A2 : Option Addr} {c0 c1 c2 : Nat} (h0 : (tImage.sl 103).R w w.heap.size [.slice A0 s.Images.length c0] s.Images) (h1 : (intT.sl 3).R w w.heap.size [.slice A1 s.Bases.length c1] s.Bases)
    (h2 : (intT.sl 3).R w w.heap.size [.slice A2 s.Entries.length c2] s.Entries) (hs : szSpace s ≤ 1099511627776) :
    Calls Try.prog 58 #[.agg #[.slice A0 s.Images.length c0, .slice A1 s.Bases.length c1, .slice A2 s.Entries.length c2]] w (RetMachB (newM s) w) := by
  obtain ⟨b, hb⟩ : ∃ b, spaceOk s = b := ⟨_, rfl⟩
  have HB := Lib.hid hb
  cases b with
  | false =>
    have HQ := Lib.hid (show newM s = (zeroM, false) from by unfold newM; rw [hb]; rfl)
    clear hb
    go_enter Try.func58, Try.ntmps58
    go_wp2_with (go_at_call 47; (with_reducible refine (spaceOk_i (s := s) (Ty.up _ h0 (by repeat (first | with_reducible exact Gro.refl _ | with_reducible exact Gro.refl_drew _ _ _ | with_reducible exact Gro.refl_drewN _ _ _ _ | assumption | with_reducible apply Gro.more | with_reducible apply Gro.alloc | with_reducible apply Gro.drew | with_reducible apply Gro.drewN))) (Ty.up _ h1 (by repeat (first | with_reducible exact Gro.refl _ | with_reducible exact Gro.refl_drew _ _ _ | with_reducible exact Gro.refl_drewN _ _ _ _ | assumption | with_reducible apply Gro.more | with_reducible apply Gro.alloc | with_reducible apply Gro.drew | with_reducible apply Gro.drewN))) (Ty.up _ h2 (by repeat (first | with_reducible exact Gro.refl _ | with_reducible exact Gro.refl_drew _ _ _ | with_reducible exact Gro.refl_drewN _ _ _ _ | assumption | with_reducible apply Gro.more | with_reducible apply Gro.alloc | with_reducible apply Gro.drew | with_reducible apply Gro.drewN))) hs).mono ?_); rw [HB.out]; rintro e w1 ⟨rfl, os1, d1, rfl⟩)
    rw [HQ.out]
    exact bodyPost_ret (v := .tuple #[.agg #[.int .i64 0, .int .i64 0, .int .i64 0, .slice none 0 0, .slice none 0 0, .int .i64 0, .int .i64 0], .bool false]) (by simp [results, Try.results58, go_sem]) rfl ⟨none, 0, none, 0, rfl, zeroM_fresh _ _ (by simp <;> omega), (by repeat (first | with_reducible exact Gro.refl _ | with_reducible exact Gro.refl_drew _ _ _ | with_reducible exact Gro.refl_drewN _ _ _ _ | assumption | with_reducible apply Gro.more | with_reducible apply Gro.alloc | with_reducible apply Gro.drew | with_reducible apply Gro.drewN))⟩
  | true =>
    have hpos : 0 < s.Entries.length := by
      have h := hb
      unfold spaceOk at h
      simp only [Bool.and_eq_true, decide_eq_true_eq] at h
      have := btw_iff.1 h.1.1.1.1.2
      omega
    obtain ⟨i0, hi, hz0, hz1, hz2⟩ := info_parts toIntS_info
    have hmk := run_make_rowN (P := Try.prog) 23 3 i0 _ Try.underlying23 hi hz0 .i64 .i64 1200 1200 (Nat.le_refl _) (by rw [hz2]; omega) (by omega)
    rw [hz1, Nat.mul_one] at hmk
    have hmk2 : ∀ w : World, (Instr.makeSlice 23 (.int .i64 1200) (.int .i64 1200)).run Try.prog w = .ok (.slice (some ⟨w.heap.size, 0, none⟩) 1200 1200) (w.alloc (.cells (madeCells #[.int .i64 0] 1200) 3)) := fun w => hmk w
    clear hz0 hz1 hz2 hi hmk
    have hel : s.Entries.length ≤ 1099511627776 := by unfold szSpace at hs; omega
    have h2' := h2
    obtain ⟨g, off, x, rfl, hxk, hcx, bx1, bx2⟩ := ints_at h2 hpos
    simp only [Nat.add_zero] at hcx
    have hgb := World.block_lt_of_cell? _ _ hcx
    simp only at hgb
    have HQ := Lib.hid (show newM s = (⟨x, 1199, 1200, List.replicate 1200 0, [], 0, 0⟩, true) from by
      unfold newM
      rw [if_pos hb]
      have : s.Entries.headD 0 = x := by
        cases he : s.Entries with
        | nil => rw [he] at hpos; exact absurd hpos (by simp)
        | cons a r => rw [he] at hxk; simpa using hxk
      rw [this])
    clear hb hxk
    go_enter Try.func58, Try.ntmps58
    go_wp2_with (go_at_call 47; (with_reducible refine (spaceOk_i (s := s) (Ty.up _ h0 (by repeat (first | with_reducible exact Gro.refl _ | with_reducible exact Gro.refl_drew _ _ _ | with_reducible exact Gro.refl_drewN _ _ _ _ | assumption | with_reducible apply Gro.more | with_reducible apply Gro.alloc | with_reducible apply Gro.drew | with_reducible apply Gro.drewN))) (Ty.up _ h1 (by repeat (first | with_reducible exact Gro.refl _ | with_reducible exact Gro.refl_drew _ _ _ | with_reducible exact Gro.refl_drewN _ _ _ _ | assumption | with_reducible apply Gro.more | with_reducible apply Gro.alloc | with_reducible apply Gro.drew | with_reducible apply Gro.drewN))) (Ty.up _ h2' (by repeat (first | with_reducible exact Gro.refl _ | with_reducible exact Gro.refl_drew _ _ _ | with_reducible exact Gro.refl_drewN _ _ _ _ | assumption | with_reducible apply Gro.more | with_reducible apply Gro.alloc | with_reducible apply Gro.drew | with_reducible apply Gro.drewN))) hs).mono ?_); rw [HB.out]; rintro e w1 ⟨rfl, os1, d1, rfl⟩)
    have hG0 : Gro w (gro ((w.alloc (.cells #[.slice A0 s.Images.length c0, .slice A1 s.Bases.length c1, .slice (some ⟨g, off, none⟩) s.Entries.length c2] 33)).alloc (.cells #[.int .i64 0, .int .i64 0, .int .i64 0, .slice none 0 0, .slice none 0 0, .int .i64 0, .int .i64 0] 80)) os1 d1) := (by repeat (first | with_reducible exact Gro.refl _ | with_reducible exact Gro.refl_drew _ _ _ | with_reducible exact Gro.refl_drewN _ _ _ _ | assumption | with_reducible apply Gro.more | with_reducible apply Gro.alloc | with_reducible apply Gro.drew | with_reducible apply Gro.drewN))
    have eb : (gro ((w.alloc (.cells #[.slice A0 s.Images.length c0, .slice A1 s.Bases.length c1, .slice (some ⟨g, off, none⟩) s.Entries.length c2] 33)).alloc (.cells #[.int .i64 0, .int .i64 0, .int .i64 0, .slice none 0 0, .slice none 0 0, .int .i64 0, .int .i64 0] 80)) os1 d1).heap[w.heap.size]? = some (.cells #[.slice A0 s.Images.length c0, .slice A1 s.Bases.length c1, .slice (some ⟨g, off, none⟩) s.Entries.length c2] 33 (0, 0)) := grow_blk (heap_alloc_new w _) (by (repeat (first | with_reducible exact Gro.refl _ | with_reducible exact Gro.refl_drew _ _ _ | with_reducible exact Gro.refl_drewN _ _ _ _ | assumption | with_reducible apply Gro.more | with_reducible apply Gro.alloc | with_reducible apply Gro.drew | with_reducible apply Gro.drewN)); done)
    have er : (gro ((w.alloc (.cells #[.slice A0 s.Images.length c0, .slice A1 s.Bases.length c1, .slice (some ⟨g, off, none⟩) s.Entries.length c2] 33)).alloc (.cells #[.int .i64 0, .int .i64 0, .int .i64 0, .slice none 0 0, .slice none 0 0, .int .i64 0, .int .i64 0] 80)) os1 d1).heap[w.heap.size + 1]? = some (.cells #[.int .i64 0, .int .i64 0, .int .i64 0, .slice none 0 0, .slice none 0 0, .int .i64 0, .int .i64 0] 80 (0, 0)) := grow_blk (show ((w.alloc (.cells #[.slice A0 s.Images.length c0, .slice A1 s.Bases.length c1, .slice (some ⟨g, off, none⟩) s.Entries.length c2] 33)).alloc (.cells #[.int .i64 0, .int .i64 0, .int .i64 0, .slice none 0 0, .slice none 0 0, .int .i64 0, .int .i64 0] 80)).heap[w.heap.size + 1]? = _ from by have h := heap_alloc_new (w.alloc (.cells #[.slice A0 s.Images.length c0, .slice A1 s.Bases.length c1, .slice (some ⟨g, off, none⟩) s.Entries.length c2] 33)) (.cells #[.int .i64 0, .int .i64 0, .int .i64 0, .slice none 0 0, .slice none 0 0, .int .i64 0, .int .i64 0] 80); rw [World.size_alloc] at h; exact h) (by (repeat (first | with_reducible exact Gro.refl _ | with_reducible exact Gro.refl_drew _ _ _ | with_reducible exact Gro.refl_drewN _ _ _ _ | assumption | with_reducible apply Gro.more | with_reducible apply Gro.alloc | with_reducible apply Gro.drew | with_reducible apply Gro.drewN)); done)
    obtain ⟨gb, hg⟩ : ∃ gb, w.heap.size = gb := ⟨_, rfl⟩
    have hcx2 : (gro ((w.alloc (.cells #[.slice A0 s.Images.length c0, .slice A1 s.Bases.length c1, .slice (some ⟨g, off, none⟩) s.Entries.length c2] 33)).alloc (.cells #[.int .i64 0, .int .i64 0, .int .i64 0, .slice none 0 0, .slice none 0 0, .int .i64 0, .int .i64 0] 80)) os1 d1).cell? ⟨g, off, none⟩ = some (.int .i64 x) := by obtain ⟨os, d, e⟩ := hG0; rw [e]; exact gro_keeps hcx os d
    rw [hg] at eb er hgb ⊢
    generalize (gro ((w.alloc (.cells #[.slice A0 s.Images.length c0, .slice A1 s.Bases.length c1, .slice (some ⟨g, off, none⟩) s.Entries.length c2] 33)).alloc (.cells #[.int .i64 0, .int .i64 0, .int .i64 0, .slice none 0 0, .slice none 0 0, .int .i64 0, .int .i64 0] 80)) os1 d1) = Y at hG0 eb er hcx2 ⊢
    obtain ⟨y0, y1, y2, _, yl⟩ := row3 eb
    obtain ⟨z0, z1, z2, z3, z4, z5, z6, zf, zl⟩ := row7 er
    have hgg : gb ≠ gb + 1 := by omega
    have hgg2 : g ≠ gb + 1 := by omega
    have hgY : g < Y.heap.size := by omega
    clear hcx h0 h1 h2 h2'
    go_region_held3 (fun w' => w'.cell? ⟨gb, 2, none⟩ = some (.slice (some ⟨g, off, none⟩) s.Entries.length c2) ∧ w'.cell? ⟨g, off, none⟩ = some (.int .i64 x)) ((repeat' apply And.intro) <;> ((repeat (first | with_reducible assumption | with_reducible refine gro_keeps ?_ _ _ | with_reducible refine alloc_keeps ?_ _ | with_reducible refine drew_keeps ?_ | with_reducible refine keep_set ?_ ?_)); done)) (first | (fail))
    go_wp2_with (fail)
    rw [HQ.out]
    have h2 := set7 er (.int .i64 x) (.int .i64 1199) (.int .i64 1200) (.slice (some ⟨Y.heap.size, 0, none⟩) 1200 1200) (.slice none 0 0) (.int .i64 0) (.int .i64 0)
    have hXs : (((((((Y.setCell ⟨gb + 1, 0, none⟩ (.int .i64 x)).setCell ⟨gb + 1, 1, none⟩ (.int .i64 1199)).setCell ⟨gb + 1, 2, none⟩ (.int .i64 1200)).setCell ⟨gb + 1, 3, none⟩ (.slice (some ⟨Y.heap.size, 0, none⟩) 1200 1200)).setCell ⟨gb + 1, 4, none⟩ (.slice none 0 0)).setCell ⟨gb + 1, 5, none⟩ (.int .i64 0)).setCell ⟨gb + 1, 6, none⟩ (.int .i64 0)).heap.size = Y.heap.size := by simp
    generalize (((((((Y.setCell ⟨gb + 1, 0, none⟩ (.int .i64 x)).setCell ⟨gb + 1, 1, none⟩ (.int .i64 1199)).setCell ⟨gb + 1, 2, none⟩ (.int .i64 1200)).setCell ⟨gb + 1, 3, none⟩ (.slice (some ⟨Y.heap.size, 0, none⟩) 1200 1200)).setCell ⟨gb + 1, 4, none⟩ (.slice none 0 0)).setCell ⟨gb + 1, 5, none⟩ (.int .i64 0)).setCell ⟨gb + 1, 6, none⟩ (.int .i64 0)) = X at h2 hXs ⊢
    obtain ⟨r0, r1, r2, r3, r4, r5, r6, _, _⟩ := row7 h2.1
    have hnew := heap_alloc_new X (.cells (madeCells #[.int .i64 0] 1200) 3)
    rw [hXs] at hnew
    have hnew2 : ((X.alloc (.cells (madeCells #[.int .i64 0] 1200) 3)).drew).heap[Y.heap.size]? = some (.cells (madeCells #[.int .i64 0] 1200) 3 (0, 0)) := hnew
    have hf := fresh_zeros (w := Y) hnew2 (Nat.le_refl _)
    have hx64 : I64 x := ⟨bx1, bx2⟩
    have n0 : I64 0 := ⟨by decide, by decide⟩
    have n1199 : I64 1199 := ⟨by decide, by decide⟩
    have n1200 : I64 1200 := ⟨by decide, by decide⟩
    have e12 : (List.replicate 1200 (0 : Int)).length = 1200 := List.length_replicate
    have hG1 := h2.2.gro hG0 (fun b hb => by simp at hb; omega)
    have hwY := hG0.size
    have hF : Fresh tMachine w ((X.alloc (.cells (madeCells #[.int .i64 0] 1200) 3)).drew) [.int .i64 x, .int .i64 1199, .int .i64 1200, .slice (some ⟨Y.heap.size, 0, none⟩) (List.replicate 1200 (0 : Int)).length 1200, .slice none 0 0, .int .i64 0, .int .i64 0] ⟨x, 1199, 1200, List.replicate 1200 0, [], 0, 0⟩ :=
      tMachine_fresh (x := ⟨x, 1199, 1200, List.replicate 1200 0, [], 0, 0⟩) hx64 n1199 n1200 hf.fre (fresh_nil ((X.alloc (.cells (madeCells #[.int .i64 0] 1200) 3)).drew) _).fre n0 n0 hwY (by simp <;> omega) (.inl (Nat.le_refl _))
    rw [e12] at hF
    have q0 := drew_keeps (alloc_keeps r0 (.cells (madeCells #[.int .i64 0] 1200) 3))
    have q1 := drew_keeps (alloc_keeps r1 (.cells (madeCells #[.int .i64 0] 1200) 3))
    have q2 := drew_keeps (alloc_keeps r2 (.cells (madeCells #[.int .i64 0] 1200) 3))
    have q3 := drew_keeps (alloc_keeps r3 (.cells (madeCells #[.int .i64 0] 1200) 3))
    have q4 := drew_keeps (alloc_keeps r4 (.cells (madeCells #[.int .i64 0] 1200) 3))
    have q5 := drew_keeps (alloc_keeps r5 (.cells (madeCells #[.int .i64 0] 1200) 3))
    have q6 := drew_keeps (alloc_keeps r6 (.cells (madeCells #[.int .i64 0] 1200) 3))
    refine bodyPost_ret (v := .tuple #[.agg #[.int .i64 x, .int .i64 1199, .int .i64 1200, .slice (some ⟨Y.heap.size, 0, none⟩) 1200 1200, .slice none 0 0, .int .i64 0, .int .i64 0], .bool true]) (by simp [results, Try.results58, go_sem, q0, q1, q2, q3, q4, q5, q6]) rfl ⟨some ⟨Y.heap.size, 0, none⟩, 1200, none, 0, ?_, ?_, hG1.trans (by (repeat (first | with_reducible exact Gro.refl _ | with_reducible exact Gro.refl_drew _ _ _ | with_reducible exact Gro.refl_drewN _ _ _ _ | assumption | with_reducible apply Gro.more | with_reducible apply Gro.alloc | with_reducible apply Gro.drew | with_reducible apply Gro.drewN)); done)⟩
    · simp only [List.length_replicate, List.length_nil]
    · simp only [List.length_replicate, List.length_nil]; exact hF
set_option maxRecDepth 100000 in
set_option maxHeartbeats 4000000 in
theorem newM_s {s : DSpace} {w : World} {A0 A1 A2 : Option Addr} {c0 c1 c2 : Nat} (h0 : (tImage.sl 103).R w w.heap.size [.slice A0 s.Images.length c0] s.Images) (h1 : (intT.sl 3).R w w.heap.size [.slice A1 s.Bases.length c1] s.Bases)
    (h2 : (intT.sl 3).R w w.heap.size [.slice A2 s.Entries.length c2] s.Entries) (hs : szSpace s ≤ 1099511627776) :
    Calls Try.prog 54 #[.agg #[.slice A0 s.Images.length c0, .slice A1 s.Bases.length c1, .slice A2 s.Entries.length c2]] w (RetMachB (newM s) w) := by
  obtain ⟨b, hb⟩ : ∃ b, spaceOk s = b := ⟨_, rfl⟩
  have HB := Lib.hid hb
  cases b with
  | false =>
    have HQ := Lib.hid (show newM s = (zeroM, false) from by unfold newM; rw [hb]; rfl)
    clear hb
    go_enter Try.func54, Try.ntmps54
    go_wp2_with (go_at_call 43; (with_reducible refine (spaceOk_s (s := s) (Ty.up _ h0 (by repeat (first | with_reducible exact Gro.refl _ | with_reducible exact Gro.refl_drew _ _ _ | with_reducible exact Gro.refl_drewN _ _ _ _ | assumption | with_reducible apply Gro.more | with_reducible apply Gro.alloc | with_reducible apply Gro.drew | with_reducible apply Gro.drewN))) (Ty.up _ h1 (by repeat (first | with_reducible exact Gro.refl _ | with_reducible exact Gro.refl_drew _ _ _ | with_reducible exact Gro.refl_drewN _ _ _ _ | assumption | with_reducible apply Gro.more | with_reducible apply Gro.alloc | with_reducible apply Gro.drew | with_reducible apply Gro.drewN))) (Ty.up _ h2 (by repeat (first | with_reducible exact Gro.refl _ | with_reducible exact Gro.refl_drew _ _ _ | with_reducible exact Gro.refl_drewN _ _ _ _ | assumption | with_reducible apply Gro.more | with_reducible apply Gro.alloc | with_reducible apply Gro.drew | with_reducible apply Gro.drewN))) hs).mono ?_); rw [HB.out]; rintro e w1 ⟨rfl, os1, d1, rfl⟩)
    rw [HQ.out]
    exact bodyPost_ret (v := .tuple #[.agg #[.int .i64 0, .int .i64 0, .int .i64 0, .slice none 0 0, .slice none 0 0, .int .i64 0, .int .i64 0], .bool false]) (by simp [results, Try.results54, go_sem]) rfl ⟨none, 0, none, 0, rfl, zeroM_fresh _ _ (by simp <;> omega), (by repeat (first | with_reducible exact Gro.refl _ | with_reducible exact Gro.refl_drew _ _ _ | with_reducible exact Gro.refl_drewN _ _ _ _ | assumption | with_reducible apply Gro.more | with_reducible apply Gro.alloc | with_reducible apply Gro.drew | with_reducible apply Gro.drewN))⟩
  | true =>
    have hpos : 0 < s.Entries.length := by
      have h := hb
      unfold spaceOk at h
      simp only [Bool.and_eq_true, decide_eq_true_eq] at h
      have := btw_iff.1 h.1.1.1.1.2
      omega
    obtain ⟨i0, hi, hz0, hz1, hz2⟩ := info_parts toIntS_info
    have hmk := run_make_rowN (P := Try.prog) 23 3 i0 _ Try.underlying23 hi hz0 .i64 .i64 1200 1200 (Nat.le_refl _) (by rw [hz2]; omega) (by omega)
    rw [hz1, Nat.mul_one] at hmk
    have hmk2 : ∀ w : World, (Instr.makeSlice 23 (.int .i64 1200) (.int .i64 1200)).run Try.prog w = .ok (.slice (some ⟨w.heap.size, 0, none⟩) 1200 1200) (w.alloc (.cells (madeCells #[.int .i64 0] 1200) 3)) := fun w => hmk w
    clear hz0 hz1 hz2 hi hmk
    have hel : s.Entries.length ≤ 1099511627776 := by unfold szSpace at hs; omega
    have h2' := h2
    obtain ⟨g, off, x, rfl, hxk, hcx, bx1, bx2⟩ := ints_at h2 hpos
    simp only [Nat.add_zero] at hcx
    have hgb := World.block_lt_of_cell? _ _ hcx
    simp only at hgb
    have HQ := Lib.hid (show newM s = (⟨x, 1199, 1200, List.replicate 1200 0, [], 0, 0⟩, true) from by
      unfold newM
      rw [if_pos hb]
      have : s.Entries.headD 0 = x := by
        cases he : s.Entries with
        | nil => rw [he] at hpos; exact absurd hpos (by simp)
        | cons a r => rw [he] at hxk; simpa using hxk
      rw [this])
    clear hb hxk
    go_enter Try.func54, Try.ntmps54
    go_wp2_with (go_at_call 43; (with_reducible refine (spaceOk_s (s := s) (Ty.up _ h0 (by repeat (first | with_reducible exact Gro.refl _ | with_reducible exact Gro.refl_drew _ _ _ | with_reducible exact Gro.refl_drewN _ _ _ _ | assumption | with_reducible apply Gro.more | with_reducible apply Gro.alloc | with_reducible apply Gro.drew | with_reducible apply Gro.drewN))) (Ty.up _ h1 (by repeat (first | with_reducible exact Gro.refl _ | with_reducible exact Gro.refl_drew _ _ _ | with_reducible exact Gro.refl_drewN _ _ _ _ | assumption | with_reducible apply Gro.more | with_reducible apply Gro.alloc | with_reducible apply Gro.drew | with_reducible apply Gro.drewN))) (Ty.up _ h2' (by repeat (first | with_reducible exact Gro.refl _ | with_reducible exact Gro.refl_drew _ _ _ | with_reducible exact Gro.refl_drewN _ _ _ _ | assumption | with_reducible apply Gro.more | with_reducible apply Gro.alloc | with_reducible apply Gro.drew | with_reducible apply Gro.drewN))) hs).mono ?_); rw [HB.out]; rintro e w1 ⟨rfl, os1, d1, rfl⟩)
    have hG0 : Gro w (gro ((w.alloc (.cells #[.slice A0 s.Images.length c0, .slice A1 s.Bases.length c1, .slice (some ⟨g, off, none⟩) s.Entries.length c2] 33)).alloc (.cells #[.int .i64 0, .int .i64 0, .int .i64 0, .slice none 0 0, .slice none 0 0, .int .i64 0, .int .i64 0] 80)) os1 d1) := (by repeat (first | with_reducible exact Gro.refl _ | with_reducible exact Gro.refl_drew _ _ _ | with_reducible exact Gro.refl_drewN _ _ _ _ | assumption | with_reducible apply Gro.more | with_reducible apply Gro.alloc | with_reducible apply Gro.drew | with_reducible apply Gro.drewN))
    have eb : (gro ((w.alloc (.cells #[.slice A0 s.Images.length c0, .slice A1 s.Bases.length c1, .slice (some ⟨g, off, none⟩) s.Entries.length c2] 33)).alloc (.cells #[.int .i64 0, .int .i64 0, .int .i64 0, .slice none 0 0, .slice none 0 0, .int .i64 0, .int .i64 0] 80)) os1 d1).heap[w.heap.size]? = some (.cells #[.slice A0 s.Images.length c0, .slice A1 s.Bases.length c1, .slice (some ⟨g, off, none⟩) s.Entries.length c2] 33 (0, 0)) := grow_blk (heap_alloc_new w _) (by (repeat (first | with_reducible exact Gro.refl _ | with_reducible exact Gro.refl_drew _ _ _ | with_reducible exact Gro.refl_drewN _ _ _ _ | assumption | with_reducible apply Gro.more | with_reducible apply Gro.alloc | with_reducible apply Gro.drew | with_reducible apply Gro.drewN)); done)
    have er : (gro ((w.alloc (.cells #[.slice A0 s.Images.length c0, .slice A1 s.Bases.length c1, .slice (some ⟨g, off, none⟩) s.Entries.length c2] 33)).alloc (.cells #[.int .i64 0, .int .i64 0, .int .i64 0, .slice none 0 0, .slice none 0 0, .int .i64 0, .int .i64 0] 80)) os1 d1).heap[w.heap.size + 1]? = some (.cells #[.int .i64 0, .int .i64 0, .int .i64 0, .slice none 0 0, .slice none 0 0, .int .i64 0, .int .i64 0] 80 (0, 0)) := grow_blk (show ((w.alloc (.cells #[.slice A0 s.Images.length c0, .slice A1 s.Bases.length c1, .slice (some ⟨g, off, none⟩) s.Entries.length c2] 33)).alloc (.cells #[.int .i64 0, .int .i64 0, .int .i64 0, .slice none 0 0, .slice none 0 0, .int .i64 0, .int .i64 0] 80)).heap[w.heap.size + 1]? = _ from by have h := heap_alloc_new (w.alloc (.cells #[.slice A0 s.Images.length c0, .slice A1 s.Bases.length c1, .slice (some ⟨g, off, none⟩) s.Entries.length c2] 33)) (.cells #[.int .i64 0, .int .i64 0, .int .i64 0, .slice none 0 0, .slice none 0 0, .int .i64 0, .int .i64 0] 80); rw [World.size_alloc] at h; exact h) (by (repeat (first | with_reducible exact Gro.refl _ | with_reducible exact Gro.refl_drew _ _ _ | with_reducible exact Gro.refl_drewN _ _ _ _ | assumption | with_reducible apply Gro.more | with_reducible apply Gro.alloc | with_reducible apply Gro.drew | with_reducible apply Gro.drewN)); done)
    obtain ⟨gb, hg⟩ : ∃ gb, w.heap.size = gb := ⟨_, rfl⟩
    have hcx2 : (gro ((w.alloc (.cells #[.slice A0 s.Images.length c0, .slice A1 s.Bases.length c1, .slice (some ⟨g, off, none⟩) s.Entries.length c2] 33)).alloc (.cells #[.int .i64 0, .int .i64 0, .int .i64 0, .slice none 0 0, .slice none 0 0, .int .i64 0, .int .i64 0] 80)) os1 d1).cell? ⟨g, off, none⟩ = some (.int .i64 x) := by obtain ⟨os, d, e⟩ := hG0; rw [e]; exact gro_keeps hcx os d
    rw [hg] at eb er hgb ⊢
    generalize (gro ((w.alloc (.cells #[.slice A0 s.Images.length c0, .slice A1 s.Bases.length c1, .slice (some ⟨g, off, none⟩) s.Entries.length c2] 33)).alloc (.cells #[.int .i64 0, .int .i64 0, .int .i64 0, .slice none 0 0, .slice none 0 0, .int .i64 0, .int .i64 0] 80)) os1 d1) = Y at hG0 eb er hcx2 ⊢
    obtain ⟨y0, y1, y2, _, yl⟩ := row3 eb
    obtain ⟨z0, z1, z2, z3, z4, z5, z6, zf, zl⟩ := row7 er
    have hgg : gb ≠ gb + 1 := by omega
    have hgg2 : g ≠ gb + 1 := by omega
    have hgY : g < Y.heap.size := by omega
    clear hcx h0 h1 h2 h2'
    go_region_held3 (fun w' => w'.cell? ⟨gb, 2, none⟩ = some (.slice (some ⟨g, off, none⟩) s.Entries.length c2) ∧ w'.cell? ⟨g, off, none⟩ = some (.int .i64 x)) ((repeat' apply And.intro) <;> ((repeat (first | with_reducible assumption | with_reducible refine gro_keeps ?_ _ _ | with_reducible refine alloc_keeps ?_ _ | with_reducible refine drew_keeps ?_ | with_reducible refine keep_set ?_ ?_)); done)) (first | (fail))
    go_wp2_with (fail)
    rw [HQ.out]
    have h2 := set7 er (.int .i64 x) (.int .i64 1199) (.int .i64 1200) (.slice (some ⟨Y.heap.size, 0, none⟩) 1200 1200) (.slice none 0 0) (.int .i64 0) (.int .i64 0)
    have hXs : (((((((Y.setCell ⟨gb + 1, 0, none⟩ (.int .i64 x)).setCell ⟨gb + 1, 1, none⟩ (.int .i64 1199)).setCell ⟨gb + 1, 2, none⟩ (.int .i64 1200)).setCell ⟨gb + 1, 3, none⟩ (.slice (some ⟨Y.heap.size, 0, none⟩) 1200 1200)).setCell ⟨gb + 1, 4, none⟩ (.slice none 0 0)).setCell ⟨gb + 1, 5, none⟩ (.int .i64 0)).setCell ⟨gb + 1, 6, none⟩ (.int .i64 0)).heap.size = Y.heap.size := by simp
    generalize (((((((Y.setCell ⟨gb + 1, 0, none⟩ (.int .i64 x)).setCell ⟨gb + 1, 1, none⟩ (.int .i64 1199)).setCell ⟨gb + 1, 2, none⟩ (.int .i64 1200)).setCell ⟨gb + 1, 3, none⟩ (.slice (some ⟨Y.heap.size, 0, none⟩) 1200 1200)).setCell ⟨gb + 1, 4, none⟩ (.slice none 0 0)).setCell ⟨gb + 1, 5, none⟩ (.int .i64 0)).setCell ⟨gb + 1, 6, none⟩ (.int .i64 0)) = X at h2 hXs ⊢
    obtain ⟨r0, r1, r2, r3, r4, r5, r6, _, _⟩ := row7 h2.1
    have hnew := heap_alloc_new X (.cells (madeCells #[.int .i64 0] 1200) 3)
    rw [hXs] at hnew
    have hnew2 : ((X.alloc (.cells (madeCells #[.int .i64 0] 1200) 3)).drew).heap[Y.heap.size]? = some (.cells (madeCells #[.int .i64 0] 1200) 3 (0, 0)) := hnew
    have hf := fresh_zeros (w := Y) hnew2 (Nat.le_refl _)
    have hx64 : I64 x := ⟨bx1, bx2⟩
    have n0 : I64 0 := ⟨by decide, by decide⟩
    have n1199 : I64 1199 := ⟨by decide, by decide⟩
    have n1200 : I64 1200 := ⟨by decide, by decide⟩
    have e12 : (List.replicate 1200 (0 : Int)).length = 1200 := List.length_replicate
    have hG1 := h2.2.gro hG0 (fun b hb => by simp at hb; omega)
    have hwY := hG0.size
    have hF : Fresh tMachine w ((X.alloc (.cells (madeCells #[.int .i64 0] 1200) 3)).drew) [.int .i64 x, .int .i64 1199, .int .i64 1200, .slice (some ⟨Y.heap.size, 0, none⟩) (List.replicate 1200 (0 : Int)).length 1200, .slice none 0 0, .int .i64 0, .int .i64 0] ⟨x, 1199, 1200, List.replicate 1200 0, [], 0, 0⟩ :=
      tMachine_fresh (x := ⟨x, 1199, 1200, List.replicate 1200 0, [], 0, 0⟩) hx64 n1199 n1200 hf.fre (fresh_nil ((X.alloc (.cells (madeCells #[.int .i64 0] 1200) 3)).drew) _).fre n0 n0 hwY (by simp <;> omega) (.inl (Nat.le_refl _))
    rw [e12] at hF
    have q0 := drew_keeps (alloc_keeps r0 (.cells (madeCells #[.int .i64 0] 1200) 3))
    have q1 := drew_keeps (alloc_keeps r1 (.cells (madeCells #[.int .i64 0] 1200) 3))
    have q2 := drew_keeps (alloc_keeps r2 (.cells (madeCells #[.int .i64 0] 1200) 3))
    have q3 := drew_keeps (alloc_keeps r3 (.cells (madeCells #[.int .i64 0] 1200) 3))
    have q4 := drew_keeps (alloc_keeps r4 (.cells (madeCells #[.int .i64 0] 1200) 3))
    have q5 := drew_keeps (alloc_keeps r5 (.cells (madeCells #[.int .i64 0] 1200) 3))
    have q6 := drew_keeps (alloc_keeps r6 (.cells (madeCells #[.int .i64 0] 1200) 3))
    refine bodyPost_ret (v := .tuple #[.agg #[.int .i64 x, .int .i64 1199, .int .i64 1200, .slice (some ⟨Y.heap.size, 0, none⟩) 1200 1200, .slice none 0 0, .int .i64 0, .int .i64 0], .bool true]) (by simp [results, Try.results54, go_sem, q0, q1, q2, q3, q4, q5, q6]) rfl ⟨some ⟨Y.heap.size, 0, none⟩, 1200, none, 0, ?_, ?_, hG1.trans (by (repeat (first | with_reducible exact Gro.refl _ | with_reducible exact Gro.refl_drew _ _ _ | with_reducible exact Gro.refl_drewN _ _ _ _ | assumption | with_reducible apply Gro.more | with_reducible apply Gro.alloc | with_reducible apply Gro.drew | with_reducible apply Gro.drewN)); done)⟩
    · simp only [List.length_replicate, List.length_nil]
    · simp only [List.length_replicate, List.length_nil]; exact hF
end Go.Proofs.Ytfhcegblnhagjaa
namespace Go.Proofs.Ytfhcegblnhagjaa
open Go.RowKit
section
variable {P : Program} {ops : Array Oper} {Q : Exit → Act → World → Prop} {md : Region.Mode} {S : World → Prop} {m : Nat}
/-- whatever order: S holds behind every operation but m -/
def AnyT (P : Program) (md : Region.Mode) (ops : Array Oper) (Q : Exit → Act → World → Prop) (S : World → Prop) (m : Nat) : Nat → Array Bool → Act → World → Prop
  | 0, listed, a, w => Region.ready md ops listed = [] ∧ Q .normal a w
  | f + 1, listed, a, w => (Region.ready md ops listed = [] → Q .normal a w) ∧
      ∀ i ∈ Region.ready md ops listed, wpOp P ops Q i (fun a' w' => (i ≠ m → S w') ∧ AnyT P md ops Q S m f (listed.setIfInBounds i true) a' w') a w
theorem AnyT.any : ∀ {f : Nat} {listed : Array Bool} {a : Act} {w : World}, AnyT P md ops Q S m f listed a w → wpAny P md ops Q f listed a w
  | 0, _, _, _, h => h
  | _ + 1, _, _, _, h => ⟨h.1, fun i hi => wpOp_mono (fun _ _ h' => h'.2.any) (h.2 i hi)⟩
/-- each number of the list waits for the one ahead of it, the first for i; the last is m -/
def linksB (md : Region.Mode) (ops : Array Oper) (m : Nat) : Nat → List Nat → Bool
  | i, [] => i == m
  | i, c :: cs => (match ops[c]? with
      | some o => o.after.any fun e => Region.binds md e && e.on == i
      | none => false) && linksB md ops m c cs
theorem links_not {listed : Array Bool} : ∀ (cs : List Nat) (i : Nat), linksB md ops m i cs = true → listed.getD i true = false → (∀ c ∈ cs, listed.getD c true = false) → (∀ c ∈ cs, c ∉ Region.ready md ops listed) ∧ (cs ≠ [] → m ∈ cs) := by
  intro cs
  induction cs with
  | nil => intro i _ _ _; simp
  | cons c cs ih =>
    intro i hl hi hc
    simp only [linksB, Bool.and_eq_true] at hl
    obtain ⟨hl1, hl2⟩ := hl
    have hcc := hc c (by simp)
    obtain ⟨h1, h2⟩ := ih c hl2 hcc (fun d hd => hc d (by simp [hd]))
    have hcn : c ∉ Region.ready md ops listed := by
      intro hr
      obtain ⟨_, o, ho, hall⟩ := mem_ready.1 hr
      rw [ho] at hl1
      obtain ⟨e, he, hb⟩ := Array.any_eq_true'.1 hl1
      simp only [Bool.and_eq_true, beq_iff_eq] at hb
      have h3 := hall e he hb.1
      rw [hb.2] at h3
      rcases Nat.lt_or_ge i listed.size with h' | h'
      · simp [h'] at hi h3
        rw [hi] at h3
        cases h3
      · simp [Array.getElem?_eq_none h'] at hi
    refine ⟨fun d hd => ?_, fun _ => ?_⟩
    · rcases List.mem_cons.1 hd with rfl | hd
      · exact hcn
      · exact h1 d hd
    · cases cs with
      | nil =>
        simp only [linksB, beq_iff_eq] at hl2
        subst hl2
        simp
      | cons d ds => exact List.mem_cons_of_mem _ (h2 (by simp))
/-- number i may be taken first -/
theorem AnyT.first {i : Nat} {oi : Oper} {v : Value} {cs : List Nat} (hi : ops[i]? = some oi) (hsel : Region.noSelect ops = true) (hlk : linksB md ops m i cs = true) (hne : cs ≠ [])
    (hQ : ∀ c a w, Q (.panic c) (a.put oi.dst v) w → Q (.panic c) a w) :
    ∀ (f : Nat) (listed : Array Bool) (a : Act) (w : World), (∀ j oj, ops[j]? = some oj → j ≠ i → listed.getD j true = false → (∀ e ∈ oj.after, Region.binds md e = true → e.on ≠ i) → oi.apart ops oj = true) →
      (∀ c ∈ cs, listed.getD c true = false) → i ∈ Region.ready md ops listed → YieldsIf P ops S oi v a → S w →
      AnyT P md ops Q S m f (listed.setIfInBounds i true) (a.put oi.dst v) w → AnyT P md ops Q S m (f + 1) listed a w := by
  intro f
  induction f with
  | zero =>
    intro listed a w _ _ hr hy hS H
    refine ⟨fun h => absurd hr (by rw [h]; simp), fun j hj => ?_⟩
    by_cases hji : j = i
    · subst hji
      exact hy.wpOp hi hS ⟨fun _ => hS, H⟩
    · exact absurd (ready_mono hj hji) (by rw [H.1]; simp)
  | succ f ih =>
    intro listed a w hfree hcs hr hy hS H
    have hiu := (mem_ready.1 hr).1
    obtain ⟨hcr, hcm⟩ := links_not cs i hlk hiu hcs
    refine ⟨fun h => absurd hr (by rw [h]; simp), fun j hj => ?_⟩
    by_cases hji : j = i
    · subst hji
      exact hy.wpOp hi hS ⟨fun _ => hS, H⟩
    · have hjm : j ≠ m := fun h => hcr j (h ▸ hcm hne) hj
      have hjc : j ∉ cs := fun h => hcr j h hj
      obtain ⟨hju, oj, hoj, hall⟩ := mem_ready.1 hj
      have hno : ∀ e ∈ oj.after, Region.binds md e = true → e.on ≠ i := by
        intro e he hb heq
        have h1 := hall e he hb
        rw [heq] at h1
        rcases Nat.lt_or_ge i listed.size with h' | h'
        · simp [h'] at hiu h1
          rw [hiu] at h1
          cases h1
        · simp [Array.getElem?_eq_none h'] at hiu
      have h2 := wpOp_putIf hoj (hfree j oj hoj hji hju hno) (fun c b => Region.noSelect_spec hsel i oi c b hi) (fun c b => Region.noSelect_spec hsel j oj c b hoj) hQ hy (H.2 j (ready_mono hj hji))
      refine wpOp_mono (fun a' w' h3 => ?_) h2
      obtain ⟨h4, h5, h6⟩ := h3
      refine ⟨h5, ih (listed.setIfInBounds j true) a' w' (fun k ok hk hki hun hnk => ?_) (fun c hc => ?_) (ready_mono hr (Ne.symm hji)) h4 (h5 hjm) (by rw [Array.setIfInBounds_comm _ _ hji]; exact h6)⟩
      · by_cases hjk : j = k
        · subst hjk
          exact hfree j ok hk hki hju hnk
        · rw [getD_set_ne true hjk] at hun
          exact hfree k ok hk hki hun hnk
      · rw [getD_set_ne true (show j ≠ c from fun h => hjc (by rw [h]; exact hc))]
        exact hcs c hc
def unlB (listed : Array Bool) (cs : List Nat) : Bool := cs.all fun c => !listed.getD c true
theorem AnyT.take {i : Nat} {oi : Oper} {v : Value} {cs : List Nat} {f : Nat} {listed : Array Bool} {a : Act} {w : World} (hi : ops[i]? = some oi) (hsel : Region.noSelect ops = true) (hf : Region.free md ops listed i = true) (hr : (Region.ready md ops listed).contains i = true)
    (hlk : linksB md ops m i cs = true) (hne : cs.isEmpty = false) (hun : unlB listed cs = true) (hQ : ∀ c a w, Q (.panic c) (a.put oi.dst v) w → Q (.panic c) a w) (hS : S w)
    (hw : Region.wanted oi (yielded ops a.tmps) = true) (hy : ∀ w, S w → (execOp a.eval oi).run P w = .ok (.value v) w)
    (h : AnyT P md ops Q S m f (listed.setIfInBounds i true) (a.put oi.dst v) w) : AnyT P md ops Q S m (f + 1) listed a w :=
  AnyT.first hi hsel hlk (by cases cs <;> simp at hne ⊢) hQ f listed a w (Region.free_spec hi hf) (fun c hc => by
    simp only [unlB, List.all_eq_true, Bool.not_eq_true'] at hun
    exact hun c hc) (by simpa using hr) (.inl ⟨hw, hy⟩) hS h
/-- one alone may come up, not the last -/
theorem AnyT.one {i : Nat} {o : Oper} {f : Nat} {listed : Array Bool} {a : Act} {w : World} (hr : Region.ready md ops listed = [i]) (ho : ops[i]? = some o)
    (h : ∀ K : Act → World → Prop, Hid (∀ a w, S w → (S w → AnyT P md ops Q S m f (listed.setIfInBounds i true) a w) → K a w) → if Region.wanted o (yielded ops a.tmps) = true then Oper.wp P o a w K Q else K (a.put o.dst undef) w) : AnyT P md ops Q S m (f + 1) listed a w :=
  ⟨fun h0 => absurd (hr.symm.trans h0) (by simp), fun j hj => by
    obtain rfl : j = i := by simpa [hr] using hj
    exact wpOp_step ho (fun K hK => h K (Lib.hid fun a w hS hT => hK a w ⟨fun _ => hS, hT hS⟩))⟩
/-- the last comes up -/
theorem AnyT.last {o : Oper} {f : Nat} {listed : Array Bool} {a : Act} {w : World} (hr : Region.ready md ops listed = [m]) (ho : ops[m]? = some o) (hd : Region.ready md ops (listed.setIfInBounds m true) = [])
    (h : ∀ K : Act → World → Prop, Hid (∀ a w, Q .normal a w → K a w) → if Region.wanted o (yielded ops a.tmps) = true then Oper.wp P o a w K Q else K (a.put o.dst undef) w) : AnyT P md ops Q S m (f + 1) listed a w :=
  ⟨fun h0 => absurd (hr.symm.trans h0) (by simp), fun j hj => by
    obtain rfl : j = m := by simpa [hr] using hj
    refine wpOp_step ho (fun K hK => h K (Lib.hid fun a w hq => hK a w ⟨fun h => absurd rfl h, ?_⟩))
    cases f with
    | zero => exact ⟨hd, hq⟩
    | succ f => exact ⟨fun _ => hq, by rw [hd]; simp⟩⟩
theorem region_T {id : Nat} {a : Act} {w : World} (S : World → Prop) (m : Nat) (hm : P.follows .mixedOrders = true) (hS : S w.drew)
    (h : S w.drew → AnyT P .any ops Q S m ops.size (Array.replicate ops.size false) a w.drew) : (Code.region id ops true).wp P Q a w :=
  wp_region_any hm (h hS).any
end
end Go.Proofs.Ytfhcegblnhagjaa
namespace Go.Proofs.Ytfhcegblnhagjaa
open Go.RowKit
section
variable {P : Program} {ops : Array Oper} {Q : Exit → Act → World → Prop} {md : Region.Mode} {S : World → Prop} {m : Nat}
theorem AnyT.step1 {i : Nat} {o : Oper} {f : Nat} {listed : Array Bool} {a : Act} {w : World} (ho : ops[i]? = some o)
    (h : ∀ K : Act → World → Prop, Hid (∀ a w, S w → AnyT P md ops Q S m f (listed.setIfInBounds i true) a w → K a w) → if Region.wanted o (yielded ops a.tmps) = true then Oper.wp P o a w K Q else K (a.put o.dst undef) w) :
    wpOp P ops Q i (fun a' w' => (i ≠ m → S w') ∧ AnyT P md ops Q S m f (listed.setIfInBounds i true) a' w') a w :=
  wpOp_step ho (fun K hK => h K (Lib.hid fun a w hS hT => hK a w ⟨fun _ => hS, hT⟩))
theorem AnyT.some1 {i : Nat} {o : Oper} {f : Nat} {listed : Array Bool} {a : Act} {w : World} (hr : Region.ready md ops listed = [i]) (ho : ops[i]? = some o)
    (h : ∀ K : Act → World → Prop, Hid (∀ a w, S w → AnyT P md ops Q S m f (listed.setIfInBounds i true) a w → K a w) → if Region.wanted o (yielded ops a.tmps) = true then Oper.wp P o a w K Q else K (a.put o.dst undef) w) : AnyT P md ops Q S m (f + 1) listed a w :=
  ⟨fun h0 => absurd (hr.symm.trans h0) (by simp), fun j hj => by
    obtain rfl : j = i := by simpa [hr] using hj
    exact AnyT.step1 ho h⟩
theorem AnyT.some2 {i j : Nat} {o o2 : Oper} {f : Nat} {listed : Array Bool} {a : Act} {w : World} (hr : Region.ready md ops listed = [i, j]) (ho : ops[i]? = some o) (ho2 : ops[j]? = some o2)
    (h : ∀ K : Act → World → Prop, Hid (∀ a w, S w → AnyT P md ops Q S m f (listed.setIfInBounds i true) a w → K a w) → if Region.wanted o (yielded ops a.tmps) = true then Oper.wp P o a w K Q else K (a.put o.dst undef) w)
    (h2 : ∀ K : Act → World → Prop, Hid (∀ a w, S w → AnyT P md ops Q S m f (listed.setIfInBounds j true) a w → K a w) → if Region.wanted o2 (yielded ops a.tmps) = true then Oper.wp P o2 a w K Q else K (a.put o2.dst undef) w) : AnyT P md ops Q S m (f + 1) listed a w :=
  ⟨fun h0 => absurd (hr.symm.trans h0) (by simp), fun k hk => by
    have hk2 : k = i ∨ k = j := by simpa [hr] using hk
    rcases hk2 with rfl | rfl
    · exact AnyT.step1 ho h
    · exact AnyT.step1 ho2 h2⟩
theorem AnyT.some3 {i j l : Nat} {o o2 o3 : Oper} {f : Nat} {listed : Array Bool} {a : Act} {w : World} (hr : Region.ready md ops listed = [i, j, l]) (ho : ops[i]? = some o) (ho2 : ops[j]? = some o2) (ho3 : ops[l]? = some o3)
    (h : ∀ K : Act → World → Prop, Hid (∀ a w, S w → AnyT P md ops Q S m f (listed.setIfInBounds i true) a w → K a w) → if Region.wanted o (yielded ops a.tmps) = true then Oper.wp P o a w K Q else K (a.put o.dst undef) w)
    (h2 : ∀ K : Act → World → Prop, Hid (∀ a w, S w → AnyT P md ops Q S m f (listed.setIfInBounds j true) a w → K a w) → if Region.wanted o2 (yielded ops a.tmps) = true then Oper.wp P o2 a w K Q else K (a.put o2.dst undef) w)
    (h3 : ∀ K : Act → World → Prop, Hid (∀ a w, S w → AnyT P md ops Q S m f (listed.setIfInBounds l true) a w → K a w) → if Region.wanted o3 (yielded ops a.tmps) = true then Oper.wp P o3 a w K Q else K (a.put o3.dst undef) w) : AnyT P md ops Q S m (f + 1) listed a w :=
  ⟨fun h0 => absurd (hr.symm.trans h0) (by simp), fun k hk => by
    have hk2 : k = i ∨ k = j ∨ k = l := by simpa [hr] using hk
    rcases hk2 with rfl | rfl | rfl
    · exact AnyT.step1 ho h
    · exact AnyT.step1 ho2 h2
    · exact AnyT.step1 ho3 h3⟩
end
/-- two lists of the call's own and an object, in a world that has grown from Y -/
structure J3 {α β : Type} (T : Ty α) (U : Ty β) (e f : TypeId) (Y W : World) (va vb : Value) (xa : List α) (xb : List β) (Sa Sb : List Nat) (go : Nat) (o : Obj) : Prop where
  ha : Has (T.sl e) W [va] xa Sa
  hb : Has (U.sl f) W [vb] xb Sb
  hab : ∀ b ∈ Sa, b ∉ Sb
  la : ∀ b ∈ Sa, Y.heap.size ≤ b
  lb : ∀ b ∈ Sb, Y.heap.size ≤ b
  hg : Gro Y W
  ho : W.heap[go]? = some o
  hoa : go ∉ Sa
  hob : go ∉ Sb
section
variable {α β : Type} {T : Ty α} {U : Ty β} {e f : TypeId} {Y W W' : World} {va vb : Value} {xa : List α} {xb : List β} {Sa Sb : List Nat} {go : Nat} {o : Obj}
theorem J3.gro (h : J3 T U e f Y W va vb xa xb Sa Sb go o) (hg : Gro W W') : J3 T U e f Y W' va vb xa xb Sa Sb go o :=
  ⟨h.ha.gro hg, h.hb.gro hg, h.hab, h.la, h.lb, h.hg.trans hg, grow_blk h.ho hg, h.hoa, h.hob⟩
theorem J3.start (ho : Y.heap[go]? = some o) : J3 T U e f Y Y (.slice none 0 0) (.slice none 0 0) [] [] [] [] go o :=
  ⟨Has.nil _ _ _, Has.nil _ _ _, by simp, by simp, by simp, Gro.refl _, ho, by simp, by simp⟩
theorem J3.allocA (h : J3 T U e f Y W va vb xa xb Sa Sb go o) : J3 T U e f Y (W.alloc (.cells #[] e)) (.slice (some ⟨W.heap.size, 0, none⟩) 0 0) vb [] xb [W.heap.size] Sb go o := by
  have hl := (Array.getElem?_eq_some_iff.1 h.ho).1
  refine ⟨Has.emp T (heap_alloc_new _ _), h.hb.gro ((Gro.refl _).alloc _), fun b hb hm => ?_, fun b hb => ?_, h.lb, h.hg.alloc _, grow_blk h.ho ((Gro.refl _).alloc _), ?_, h.hob⟩
  · have := h.hb.lt b hm; simp at hb; omega
  · have := h.hg.size; simp at hb; omega
  · simp; omega
theorem J3.allocB (h : J3 T U e f Y W va vb xa xb Sa Sb go o) : J3 T U e f Y (W.alloc (.cells #[] f)) va (.slice (some ⟨W.heap.size, 0, none⟩) 0 0) xa [] Sa [W.heap.size] go o := by
  have hl := (Array.getElem?_eq_some_iff.1 h.ho).1
  refine ⟨h.ha.gro ((Gro.refl _).alloc _), Has.emp U (heap_alloc_new _ _), fun b hb hm => ?_, h.la, fun b hb => ?_, h.hg.alloc _, grow_blk h.ho ((Gro.refl _).alloc _), h.hoa, ?_⟩
  · have := h.ha.lt b hb; simp at hm; omega
  · have := h.hg.size; simp at hb; omega
  · simp; omega
theorem J3.allocO {cs : Array Value} {t : TypeId} (h : J3 T U e f Y W va vb xa xb Sa Sb go o) : J3 T U e f Y (W.alloc (.cells cs t)) va vb xa xb Sa Sb W.heap.size (.cells cs t (0, 0)) := by
  refine ⟨h.ha.gro ((Gro.refl _).alloc _), h.hb.gro ((Gro.refl _).alloc _), h.hab, h.la, h.lb, h.hg.alloc _, heap_alloc_new _ _, fun hm => ?_, fun hm => ?_⟩
  · have := h.ha.lt _ hm; omega
  · have := h.hb.lt _ hm; omega
theorem J3.appA {va' : Value} {xa' : List α} {Sa' : List Nat} (h : J3 T U e f Y W va vb xa xb Sa Sb go o) (hon : OnlyS Sa W W') (hH : Has (T.sl e) W' [va'] xa' Sa') (hS : ∀ b ∈ Sa', b ∈ Sa ∨ W.heap.size ≤ b) : J3 T U e f Y W' va' vb xa' xb Sa' Sb go o := by
  have hl := (Array.getElem?_eq_some_iff.1 h.ho).1
  refine ⟨hH, h.hb.keep hon (fun b hb hm => h.hab b hm hb), fun b hb hm => ?_, fun b hb => ?_, h.lb, hon.gro h.hg h.la, (hon.block go hl h.hoa).trans h.ho, fun hm => ?_, h.hob⟩
  · rcases hS b hb with h1 | h1
    · exact h.hab b h1 hm
    · have := h.hb.lt b hm; omega
  · rcases hS b hb with h1 | h1
    · exact h.la b h1
    · have := h.hg.size; omega
  · rcases hS go hm with h1 | h1
    · exact h.hoa h1
    · omega
theorem J3.appB {vb' : Value} {xb' : List β} {Sb' : List Nat} (h : J3 T U e f Y W va vb xa xb Sa Sb go o) (hon : OnlyS Sb W W') (hH : Has (U.sl f) W' [vb'] xb' Sb') (hS : ∀ b ∈ Sb', b ∈ Sb ∨ W.heap.size ≤ b) : J3 T U e f Y W' va vb' xa xb' Sa Sb' go o := by
  have hl := (Array.getElem?_eq_some_iff.1 h.ho).1
  refine ⟨h.ha.keep hon (fun b hb hm => h.hab b hb hm), hH, fun b hb hm => ?_, h.la, fun b hb => ?_, hon.gro h.hg h.lb, (hon.block go hl h.hob).trans h.ho, h.hoa, fun hm => ?_⟩
  · rcases hS b hm with h1 | h1
    · exact h.hab b hb h1
    · have := h.ha.lt b hb; omega
  · rcases hS b hb with h1 | h1
    · exact h.lb b h1
    · have := h.hg.size; omega
  · rcases hS go hm with h1 | h1
    · exact h.hob h1
    · omega
theorem J3.cell {p : Addr} {v : Value} (h : J3 T U e f Y W va vb xa xb Sa Sb go o) (hc : Y.cell? p = some v) : W.cell? p = some v := by
  obtain ⟨os, d, hw⟩ := h.hg
  rw [hw]
  exact gro_keeps hc os d
theorem J3.store {o' : Obj} (h : J3 T U e f Y W va vb xa xb Sa Sb go o) (hon : OnlyS [go] W W') (ho' : W'.heap[go]? = some o') (hgo : Y.heap.size ≤ go) : J3 T U e f Y W' va vb xa xb Sa Sb go o' :=
  ⟨h.ha.keep hon (fun b hb hm => h.hoa (by simp at hm; exact hm ▸ hb)), h.hb.keep hon (fun b hb hm => h.hob (by simp at hm; exact hm ▸ hb)), h.hab, h.la, h.lb, hon.gro h.hg (fun b hb => by simp at hb; omega), ho', h.hoa, h.hob⟩
end
end Go.Proofs.Ytfhcegblnhagjaa
namespace Go.Proofs.Ytfhcegblnhagjaa
open Go.RowKit
theorem only_less {S L : List Nat} {a b : World} (h : OnlyS (S ++ L) a b) (hL : ∀ k ∈ L, a.heap.size ≤ k) : OnlyS S a b := by
  obtain ⟨h1, h2, h3, h4, h5⟩ := h
  refine ⟨h1, h2, h3, h4, fun k hk hn => h5 k hk (fun hm => ?_)⟩
  rcases List.mem_append.1 hm with hm | hm
  · exact hn hm
  · have := hL k hm; omega
theorem only_step {Y1 Y Y2 W : World} {g3 : Nat} {S : List Nat} (ho : OnlyS [g3] Y1 Y) (hg : Gro Y Y2) (hon : OnlyS S Y2 W) (hS : ∀ b ∈ S, Y1.heap.size ≤ b) (j : Nat) (v : Value) : OnlyS [g3] Y1 (W.setCell ⟨g3, j, none⟩ v) :=
  (only_less (((ho.trans (hg.only [g3])).mono (S' := [g3] ++ S) (fun k hk => List.mem_append_left _ hk)).trans (hon.mono (fun k hk => List.mem_append_right _ hk))) hS).setCell (p := ⟨g3, j, none⟩) (by simp) v
theorem gcell {a b : World} (h : Gro a b) {p : Addr} {v : Value} (hp : a.cell? p = some v) : b.cell? p = some v := by
  obtain ⟨os, d, rfl⟩ := h
  exact gro_keeps hp os d
set_option maxRecDepth 100000 in
set_option maxHeartbeats 4000000 in
theorem copyImage_s {x : DImage} {w : World} {A : Option Addr} {c : Nat} (p0 : x.Code.size ≤ 9223372036854775807) (h1 : (tSymbol.sl 118).R w w.heap.size [.slice A x.Symbols.length c] x.Symbols) (hl : x.Symbols.length ≤ 1099511627776) :
    Calls Try.prog 89 #[.agg #[.string x.Code, .slice A x.Symbols.length c]] w (RetImage x w) := by
  go_enter Try.func89, Try.ntmps89
  go_wp2_with (fail)
  have hG0 : Gro w ((w.alloc (.cells #[.string x.Code, .slice A x.Symbols.length c] 103)).alloc (.cells #[.string ⟨#[]⟩, .slice none 0 0] 103)) := (by repeat (first | with_reducible exact Gro.refl _ | with_reducible exact Gro.refl_drew _ _ _ | with_reducible exact Gro.refl_drewN _ _ _ _ | assumption | with_reducible apply Gro.more | with_reducible apply Gro.alloc | with_reducible apply Gro.drew | with_reducible apply Gro.drewN))
  have eb : ((w.alloc (.cells #[.string x.Code, .slice A x.Symbols.length c] 103)).alloc (.cells #[.string ⟨#[]⟩, .slice none 0 0] 103)).heap[w.heap.size]? = some (.cells #[.string x.Code, .slice A x.Symbols.length c] 103 (0, 0)) := grow_blk (heap_alloc_new w _) (by (repeat (first | with_reducible exact Gro.refl _ | with_reducible exact Gro.refl_drew _ _ _ | with_reducible exact Gro.refl_drewN _ _ _ _ | assumption | with_reducible apply Gro.more | with_reducible apply Gro.alloc | with_reducible apply Gro.drew | with_reducible apply Gro.drewN)); done)
  have er : ((w.alloc (.cells #[.string x.Code, .slice A x.Symbols.length c] 103)).alloc (.cells #[.string ⟨#[]⟩, .slice none 0 0] 103)).heap[w.heap.size + 1]? = some (.cells #[.string ⟨#[]⟩, .slice none 0 0] 103 (0, 0)) := by have h := heap_alloc_new (w.alloc (.cells #[.string x.Code, .slice A x.Symbols.length c] 103)) (.cells #[.string ⟨#[]⟩, .slice none 0 0] 103); rw [World.size_alloc] at h; exact h
  have hd := Ty.up _ h1 hG0
  obtain ⟨g, hg⟩ : ∃ g, w.heap.size = g := ⟨_, rfl⟩
  rw [hg] at eb er ⊢
  generalize ((w.alloc (.cells #[.string x.Code, .slice A x.Symbols.length c] 103)).alloc (.cells #[.string ⟨#[]⟩, .slice none 0 0] 103)) = Y at hG0 eb er hd ⊢
  obtain ⟨y0, y1, _, _, yl⟩ := box2 eb
  obtain ⟨z0, z1, zf0, zf1, zl⟩ := box2 er
  have hgg : g ≠ g + 1 := by omega
  have hgb : g ≠ Y.heap.size := by omega
  have hgb1 : g + 1 ≠ Y.heap.size := by omega
  clear h1
  go_region_held3 (fun w' => w'.cell? ⟨g, 0, none⟩ = some (.string x.Code) ∧ w'.cell? ⟨g, 1, none⟩ = some (.slice A x.Symbols.length c)) ((repeat' apply And.intro) <;> ((repeat (first | with_reducible assumption | with_reducible refine gro_keeps ?_ _ _ | with_reducible refine alloc_keeps ?_ _ | with_reducible refine drew_keeps ?_ | with_reducible refine keep_set ?_ ?_)); done)) (first
    | (refine step_append_hasl (L := x.Symbols.length) rfl (.tmp 5) (.tmp 7) elSymbol flatSymbol (S := [Y.heap.size]) (Has.emp tSymbol (heap_alloc_new _ _)) (Ty.up _ hd (by repeat (first | with_reducible exact Gro.refl _ | with_reducible exact Gro.refl_drew _ _ _ | with_reducible exact Gro.refl_drewN _ _ _ _ | assumption | with_reducible apply Gro.more | with_reducible apply Gro.alloc | with_reducible apply Gro.drew | with_reducible apply Gro.drewN))) rfl rfl rfl (Nat.zero_add _).symm (by omega) (by omega) ?_; intro A7 c7 W7 S7 hon hH7 hS7; have e7 := frz_thru er (by (repeat (first | with_reducible exact Gro.refl _ | with_reducible exact Gro.refl_drew _ _ _ | with_reducible exact Gro.refl_drewN _ _ _ _ | assumption | with_reducible apply Gro.more | with_reducible apply Gro.alloc | with_reducible apply Gro.drew | with_reducible apply Gro.drewN)); done) hon (by simpa using hgb1); have q0 := keep_thru y0 (by (repeat (first | with_reducible exact Gro.refl _ | with_reducible exact Gro.refl_drew _ _ _ | with_reducible exact Gro.refl_drewN _ _ _ _ | assumption | with_reducible apply Gro.more | with_reducible apply Gro.alloc | with_reducible apply Gro.drew | with_reducible apply Gro.drewN)); done) hon (by simpa using hgb); have q1 := keep_thru y1 (by (repeat (first | with_reducible exact Gro.refl _ | with_reducible exact Gro.refl_drew _ _ _ | with_reducible exact Gro.refl_drewN _ _ _ _ | assumption | with_reducible apply Gro.more | with_reducible apply Gro.alloc | with_reducible apply Gro.drew | with_reducible apply Gro.drewN)); done) hon (by simpa using hgb); obtain ⟨a0, a1, a2, a3, _⟩ := box2 e7; have e7l := (Array.getElem?_eq_some_iff.1 e7).1))
  go_wp2_with (fail)
  have h2 := set2 e7 (.string x.Code) (.slice A7 x.Symbols.length c7)
  obtain ⟨r0, r1, _, _, _⟩ := box2 h2.1
  have hYs := hG0.size
  have hGY : Gro Y W7 := hon.gro (W0 := Y) (by (repeat (first | with_reducible exact Gro.refl _ | with_reducible exact Gro.refl_drew _ _ _ | with_reducible exact Gro.refl_drewN _ _ _ _ | assumption | with_reducible apply Gro.more | with_reducible apply Gro.alloc | with_reducible apply Gro.drew | with_reducible apply Gro.drewN)); done) (fun b hb => by simp at hb; omega)
  have hlo : ∀ b ∈ S7, Y.heap.size ≤ b := fun b hb => by
    rcases hS7 b hb with h | h
    · simp at h; omega
    · simp at h; omega
  have hH8 := hH7.keep h2.2 (fun b hb hm => by have := hlo b hb; simp at hm; omega)
  rw [List.nil_append] at hH8
  exact bodyPost_ret (v := .agg #[.string x.Code, .slice A7 x.Symbols.length c7]) (by simp [results, Try.results89, go_sem, r0, r1]) rfl ⟨A7, c7, rfl, tImage_fresh p0 (Has.fresh (w := w) hH8 (fun b hb => by have := hlo b hb; omega)).fre (Nat.le_refl _), h2.2.gro (hG0.trans hGY) (fun b hb => by simp at hb; omega)⟩
set_option maxRecDepth 100000 in
set_option maxHeartbeats 8000000 in
theorem copySpace_s {s : DSpace} {w : World} {A0 A1 A2 : Option Addr} {c0 c1 c2 : Nat} (h0 : (tImage.sl 103).R w w.heap.size [.slice A0 s.Images.length c0] s.Images) (h1 : (intT.sl 3).R w w.heap.size [.slice A1 s.Bases.length c1] s.Bases)
    (h2 : (intT.sl 3).R w w.heap.size [.slice A2 s.Entries.length c2] s.Entries) (hs : szSpace s ≤ 1099511627776) :
    Calls Try.prog 53 #[.agg #[.slice A0 s.Images.length c0, .slice A1 s.Bases.length c1, .slice A2 s.Entries.length c2]] w (RetSpace s w) := by
  have hl1 : s.Bases.length ≤ 1099511627776 := by unfold szSpace at hs; omega
  have hl2 : s.Entries.length ≤ 1099511627776 := by unfold szSpace at hs; omega
  go_enter Try.func53, Try.ntmps53
  go_upto_region 1 with (fail)
  have hG0 : Gro w ((w.alloc (.cells #[.slice A0 s.Images.length c0, .slice A1 s.Bases.length c1, .slice A2 s.Entries.length c2] 33)).alloc (.cells #[.slice none 0 0, .slice none 0 0, .slice none 0 0] 33)) := (by repeat (first | with_reducible exact Gro.refl _ | with_reducible exact Gro.refl_drew _ _ _ | with_reducible exact Gro.refl_drewN _ _ _ _ | assumption | with_reducible apply Gro.more | with_reducible apply Gro.alloc | with_reducible apply Gro.drew | with_reducible apply Gro.drewN))
  have eb : ((w.alloc (.cells #[.slice A0 s.Images.length c0, .slice A1 s.Bases.length c1, .slice A2 s.Entries.length c2] 33)).alloc (.cells #[.slice none 0 0, .slice none 0 0, .slice none 0 0] 33)).heap[w.heap.size]? = some (.cells #[.slice A0 s.Images.length c0, .slice A1 s.Bases.length c1, .slice A2 s.Entries.length c2] 33 (0, 0)) := grow_blk (heap_alloc_new w _) (by (repeat (first | with_reducible exact Gro.refl _ | with_reducible exact Gro.refl_drew _ _ _ | with_reducible exact Gro.refl_drewN _ _ _ _ | assumption | with_reducible apply Gro.more | with_reducible apply Gro.alloc | with_reducible apply Gro.drew | with_reducible apply Gro.drewN)); done)
  have er : ((w.alloc (.cells #[.slice A0 s.Images.length c0, .slice A1 s.Bases.length c1, .slice A2 s.Entries.length c2] 33)).alloc (.cells #[.slice none 0 0, .slice none 0 0, .slice none 0 0] 33)).heap[w.heap.size + 1]? = some (.cells #[.slice none 0 0, .slice none 0 0, .slice none 0 0] 33 (0, 0)) := by have h := heap_alloc_new (w.alloc (.cells #[.slice A0 s.Images.length c0, .slice A1 s.Bases.length c1, .slice A2 s.Entries.length c2] 33)) (.cells #[.slice none 0 0, .slice none 0 0, .slice none 0 0] 33); rw [World.size_alloc] at h; exact h
  have hd0 := Ty.up _ h0 hG0
  have hd1 := Ty.up _ h1 hG0
  have hd2 := Ty.up _ h2 hG0
  obtain ⟨g, hg⟩ : ∃ g, w.heap.size = g := ⟨_, rfl⟩
  rw [hg] at eb er ⊢
  generalize ((w.alloc (.cells #[.slice A0 s.Images.length c0, .slice A1 s.Bases.length c1, .slice A2 s.Entries.length c2] 33)).alloc (.cells #[.slice none 0 0, .slice none 0 0, .slice none 0 0] 33)) = Y at hG0 eb er hd0 hd1 hd2 ⊢
  obtain ⟨y0, y1, y2, _, yl⟩ := row3 eb
  have zl := (row3 er).2.2.2.2
  clear h0 h1 h2
  go_cut [3] from 3 to 13 (fun v3 wx => ∃ (g3 : Nat) (B1 B2 : Option Addr) (d1 d2 : Nat) (S1 S2 : List Nat), v3 = .pointer (some ⟨g3, 0, none⟩) ∧ J3 intT intT 3 3 Y wx (.slice B1 s.Bases.length d1) (.slice B2 s.Entries.length d2) s.Bases s.Entries S1 S2 g3 (.cells #[.slice none 0 0, .slice B1 s.Bases.length d1, .slice B2 s.Entries.length d2] 33 (0, 0)) ∧ Y.heap.size ≤ g3)
  case first =>
    refine region_T (fun w' => w'.cell? ⟨g, 1, none⟩ = some (.slice A1 s.Bases.length c1) ∧ w'.cell? ⟨g, 2, none⟩ = some (.slice A2 s.Entries.length c2)) 10 (by kernel_rfl) ⟨drew_keeps y1, drew_keeps y2⟩ (fun hH => ?_)
    have HJ := J3.start (T := intT) (U := intT) (e := 3) (f := 3) er
    have HJ := HJ.gro ((Gro.refl _).drew)
    generalize hYd : Y.drew = Wx at HJ hH ⊢
    clear hYd
    refine AnyT.take (i := 1) (cs := [10]) rfl (by kernel_rfl) (by kernel_rfl) (by kernel_rfl) (by kernel_rfl) rfl (by kernel_rfl) (fun _ _ _ h => h) hH (by rfl) (by intro w hSw; (try dsimp only at hSw); go_simp; (try with_reducible rfl)) ?_
    try simp only [Act.put, List.setIfInBounds_toArray, List.set_cons_zero, List.set_cons_succ]
    refine AnyT.take (i := 2) (cs := [10]) rfl (by kernel_rfl) (by kernel_rfl) (by kernel_rfl) (by kernel_rfl) rfl (by kernel_rfl) (fun _ _ _ h => h) hH (by rfl) (by intro w hSw; (try dsimp only at hSw); go_simp; (try with_reducible rfl)) ?_
    try simp only [Act.put, List.setIfInBounds_toArray, List.set_cons_zero, List.set_cons_succ]
    refine AnyT.take (i := 5) (cs := [10]) rfl (by kernel_rfl) (by kernel_rfl) (by kernel_rfl) (by kernel_rfl) rfl (by kernel_rfl) (fun _ _ _ h => h) hH (by rfl) (by intro w hSw; (try dsimp only at hSw); go_simp; (try with_reducible rfl)) ?_
    try simp only [Act.put, List.setIfInBounds_toArray, List.set_cons_zero, List.set_cons_succ]
    refine AnyT.take (i := 6) (cs := [10]) rfl (by kernel_rfl) (by kernel_rfl) (by kernel_rfl) (by kernel_rfl) rfl (by kernel_rfl) (fun _ _ _ h => h) hH (by rfl) (by intro w hSw; (try dsimp only at hSw); go_simp; (try with_reducible rfl)) ?_
    try simp only [Act.put, List.setIfInBounds_toArray, List.set_cons_zero, List.set_cons_succ]
    refine AnyT.some3 (i := 0) (j := 4) (l := 9) (by kernel_rfl) rfl rfl rfl (fun K hK => ?_) (fun K hK => ?_) (fun K hK => ?_) 
    · go_simp
      have HJ := HJ.allocA
      refine hK.out _ _ ⟨HJ.cell y1, HJ.cell y2⟩ ?_
      clear hK
      generalize World.alloc _ (.cells #[] 3) = Wx at HJ ⊢
      try simp only [Act.put, List.setIfInBounds_toArray, List.set_cons_zero, List.set_cons_succ]
      refine AnyT.some3 (i := 3) (j := 4) (l := 9) (by kernel_rfl) rfl rfl rfl (fun K hK => ?_) (fun K hK => ?_) (fun K hK => ?_) 
      · refine step_append_hasl (L := s.Bases.length) rfl (.tmp 5) (.tmp 7) elInt flat_int HJ.ha (Ty.up _ hd1 HJ.hg) rfl rfl rfl (Nat.zero_add _).symm (by omega) (by omega) ?_
        intro B1 d1 W1 S1 hon hH hS
        rw [List.nil_append] at hH
        have HJ := HJ.appA hon hH hS
        refine hK.out _ _ ⟨HJ.cell y1, HJ.cell y2⟩ ?_
        clear hK
        try simp only [Act.put, List.setIfInBounds_toArray, List.set_cons_zero, List.set_cons_succ]
        refine AnyT.some2 (i := 4) (j := 9) (by kernel_rfl) rfl rfl (fun K hK => ?_) (fun K hK => ?_) 
        · go_simp
          have HJ := HJ.allocB
          refine hK.out _ _ ⟨HJ.cell y1, HJ.cell y2⟩ ?_
          clear hK
          generalize World.alloc _ (.cells #[] 3) = Wx at HJ ⊢
          try simp only [Act.put, List.setIfInBounds_toArray, List.set_cons_zero, List.set_cons_succ]
          refine AnyT.some2 (i := 7) (j := 9) (by kernel_rfl) rfl rfl (fun K hK => ?_) (fun K hK => ?_) 
          · refine step_append_hasl (L := s.Entries.length) rfl (.tmp 9) (.tmp 11) elInt flat_int HJ.hb (Ty.up _ hd2 HJ.hg) rfl rfl rfl (Nat.zero_add _).symm (by omega) (by omega) ?_
            intro B2 d2 W2 S2 hon hH hS
            rw [List.nil_append] at hH
            have HJ := HJ.appB hon hH hS
            refine hK.out _ _ ⟨HJ.cell y1, HJ.cell y2⟩ ?_
            clear hK
            try simp only [Act.put, List.setIfInBounds_toArray, List.set_cons_zero, List.set_cons_succ]
            refine AnyT.take (i := 8) (cs := [10]) rfl (by kernel_rfl) (by kernel_rfl) (by kernel_rfl) (by kernel_rfl) rfl (by kernel_rfl) (fun _ _ _ h => h) ⟨HJ.cell y1, HJ.cell y2⟩ (by rfl) (by intro w hSw; (try dsimp only at hSw); go_simp; (try with_reducible rfl)) ?_
            try simp only [Act.put, List.setIfInBounds_toArray, List.set_cons_zero, List.set_cons_succ]
            refine AnyT.some1 (i := 9) (by kernel_rfl) rfl (fun K hK => ?_) 
            · go_simp
              have hgo := HJ.hg.size
              have HJ := HJ.allocO (cs := #[.slice none 0 0, .slice none 0 0, .slice none 0 0]) (t := 33)
              refine hK.out _ _ ⟨HJ.cell y1, HJ.cell y2⟩ ?_
              clear hK
              generalize World.alloc _ (.cells #[.slice none 0 0, .slice none 0 0, .slice none 0 0] 33) = Wx at HJ ⊢
              try simp only [Act.put, List.setIfInBounds_toArray, List.set_cons_zero, List.set_cons_succ]
              obtain ⟨o0, o1, o2, of, ol⟩ := row3 HJ.ho
              refine AnyT.last (by kernel_rfl) rfl (by kernel_rfl) (fun K hK => ?_)
              go_simp
              refine hK.out _ _ ?_
              clear hK
              try simp only [Act.put, List.setIfInBounds_toArray, List.set_cons_zero, List.set_cons_succ]
              have h2 := set3 HJ.ho (.slice none 0 0) (.slice B1 s.Bases.length d1) (.slice B2 s.Entries.length d2)
              have HJ := HJ.store h2.2 h2.1 hgo
              go_wp2_with (fail)
              go_meet
              exact ⟨_, B1, B2, d1, d2, S1, S2, rfl, HJ, hgo⟩
          · go_simp
            have hgo := HJ.hg.size
            have HJ := HJ.allocO (cs := #[.slice none 0 0, .slice none 0 0, .slice none 0 0]) (t := 33)
            refine hK.out _ _ ⟨HJ.cell y1, HJ.cell y2⟩ ?_
            clear hK
            generalize World.alloc _ (.cells #[.slice none 0 0, .slice none 0 0, .slice none 0 0] 33) = Wx at HJ ⊢
            try simp only [Act.put, List.setIfInBounds_toArray, List.set_cons_zero, List.set_cons_succ]
            refine AnyT.some1 (i := 7) (by kernel_rfl) rfl (fun K hK => ?_) 
            · refine step_append_hasl (L := s.Entries.length) rfl (.tmp 9) (.tmp 11) elInt flat_int HJ.hb (Ty.up _ hd2 HJ.hg) rfl rfl rfl (Nat.zero_add _).symm (by omega) (by omega) ?_
              intro B2 d2 W2 S2 hon hH hS
              rw [List.nil_append] at hH
              have HJ := HJ.appB hon hH hS
              refine hK.out _ _ ⟨HJ.cell y1, HJ.cell y2⟩ ?_
              clear hK
              try simp only [Act.put, List.setIfInBounds_toArray, List.set_cons_zero, List.set_cons_succ]
              refine AnyT.take (i := 8) (cs := [10]) rfl (by kernel_rfl) (by kernel_rfl) (by kernel_rfl) (by kernel_rfl) rfl (by kernel_rfl) (fun _ _ _ h => h) ⟨HJ.cell y1, HJ.cell y2⟩ (by rfl) (by intro w hSw; (try dsimp only at hSw); go_simp; (try with_reducible rfl)) ?_
              try simp only [Act.put, List.setIfInBounds_toArray, List.set_cons_zero, List.set_cons_succ]
              obtain ⟨o0, o1, o2, of, ol⟩ := row3 HJ.ho
              refine AnyT.last (by kernel_rfl) rfl (by kernel_rfl) (fun K hK => ?_)
              go_simp
              refine hK.out _ _ ?_
              clear hK
              try simp only [Act.put, List.setIfInBounds_toArray, List.set_cons_zero, List.set_cons_succ]
              have h2 := set3 HJ.ho (.slice none 0 0) (.slice B1 s.Bases.length d1) (.slice B2 s.Entries.length d2)
              have HJ := HJ.store h2.2 h2.1 hgo
              go_wp2_with (fail)
              go_meet
              exact ⟨_, B1, B2, d1, d2, S1, S2, rfl, HJ, hgo⟩
        · go_simp
          have hgo := HJ.hg.size
          have HJ := HJ.allocO (cs := #[.slice none 0 0, .slice none 0 0, .slice none 0 0]) (t := 33)
          refine hK.out _ _ ⟨HJ.cell y1, HJ.cell y2⟩ ?_
          clear hK
          generalize World.alloc _ (.cells #[.slice none 0 0, .slice none 0 0, .slice none 0 0] 33) = Wx at HJ ⊢
          try simp only [Act.put, List.setIfInBounds_toArray, List.set_cons_zero, List.set_cons_succ]
          refine AnyT.some1 (i := 4) (by kernel_rfl) rfl (fun K hK => ?_) 
          · go_simp
            have HJ := HJ.allocB
            refine hK.out _ _ ⟨HJ.cell y1, HJ.cell y2⟩ ?_
            clear hK
            generalize World.alloc _ (.cells #[] 3) = Wx at HJ ⊢
            try simp only [Act.put, List.setIfInBounds_toArray, List.set_cons_zero, List.set_cons_succ]
            refine AnyT.some1 (i := 7) (by kernel_rfl) rfl (fun K hK => ?_) 
            · refine step_append_hasl (L := s.Entries.length) rfl (.tmp 9) (.tmp 11) elInt flat_int HJ.hb (Ty.up _ hd2 HJ.hg) rfl rfl rfl (Nat.zero_add _).symm (by omega) (by omega) ?_
              intro B2 d2 W2 S2 hon hH hS
              rw [List.nil_append] at hH
              have HJ := HJ.appB hon hH hS
              refine hK.out _ _ ⟨HJ.cell y1, HJ.cell y2⟩ ?_
              clear hK
              try simp only [Act.put, List.setIfInBounds_toArray, List.set_cons_zero, List.set_cons_succ]
              refine AnyT.take (i := 8) (cs := [10]) rfl (by kernel_rfl) (by kernel_rfl) (by kernel_rfl) (by kernel_rfl) rfl (by kernel_rfl) (fun _ _ _ h => h) ⟨HJ.cell y1, HJ.cell y2⟩ (by rfl) (by intro w hSw; (try dsimp only at hSw); go_simp; (try with_reducible rfl)) ?_
              try simp only [Act.put, List.setIfInBounds_toArray, List.set_cons_zero, List.set_cons_succ]
              obtain ⟨o0, o1, o2, of, ol⟩ := row3 HJ.ho
              refine AnyT.last (by kernel_rfl) rfl (by kernel_rfl) (fun K hK => ?_)
              go_simp
              refine hK.out _ _ ?_
              clear hK
              try simp only [Act.put, List.setIfInBounds_toArray, List.set_cons_zero, List.set_cons_succ]
              have h2 := set3 HJ.ho (.slice none 0 0) (.slice B1 s.Bases.length d1) (.slice B2 s.Entries.length d2)
              have HJ := HJ.store h2.2 h2.1 hgo
              go_wp2_with (fail)
              go_meet
              exact ⟨_, B1, B2, d1, d2, S1, S2, rfl, HJ, hgo⟩
      · go_simp
        have HJ := HJ.allocB
        refine hK.out _ _ ⟨HJ.cell y1, HJ.cell y2⟩ ?_
        clear hK
        generalize World.alloc _ (.cells #[] 3) = Wx at HJ ⊢
        try simp only [Act.put, List.setIfInBounds_toArray, List.set_cons_zero, List.set_cons_succ]
        refine AnyT.some2 (i := 3) (j := 9) (by kernel_rfl) rfl rfl (fun K hK => ?_) (fun K hK => ?_) 
        · refine step_append_hasl (L := s.Bases.length) rfl (.tmp 5) (.tmp 7) elInt flat_int HJ.ha (Ty.up _ hd1 HJ.hg) rfl rfl rfl (Nat.zero_add _).symm (by omega) (by omega) ?_
          intro B1 d1 W1 S1 hon hH hS
          rw [List.nil_append] at hH
          have HJ := HJ.appA hon hH hS
          refine hK.out _ _ ⟨HJ.cell y1, HJ.cell y2⟩ ?_
          clear hK
          try simp only [Act.put, List.setIfInBounds_toArray, List.set_cons_zero, List.set_cons_succ]
          refine AnyT.some2 (i := 7) (j := 9) (by kernel_rfl) rfl rfl (fun K hK => ?_) (fun K hK => ?_) 
          · refine step_append_hasl (L := s.Entries.length) rfl (.tmp 9) (.tmp 11) elInt flat_int HJ.hb (Ty.up _ hd2 HJ.hg) rfl rfl rfl (Nat.zero_add _).symm (by omega) (by omega) ?_
            intro B2 d2 W2 S2 hon hH hS
            rw [List.nil_append] at hH
            have HJ := HJ.appB hon hH hS
            refine hK.out _ _ ⟨HJ.cell y1, HJ.cell y2⟩ ?_
            clear hK
            try simp only [Act.put, List.setIfInBounds_toArray, List.set_cons_zero, List.set_cons_succ]
            refine AnyT.take (i := 8) (cs := [10]) rfl (by kernel_rfl) (by kernel_rfl) (by kernel_rfl) (by kernel_rfl) rfl (by kernel_rfl) (fun _ _ _ h => h) ⟨HJ.cell y1, HJ.cell y2⟩ (by rfl) (by intro w hSw; (try dsimp only at hSw); go_simp; (try with_reducible rfl)) ?_
            try simp only [Act.put, List.setIfInBounds_toArray, List.set_cons_zero, List.set_cons_succ]
            refine AnyT.some1 (i := 9) (by kernel_rfl) rfl (fun K hK => ?_) 
            · go_simp
              have hgo := HJ.hg.size
              have HJ := HJ.allocO (cs := #[.slice none 0 0, .slice none 0 0, .slice none 0 0]) (t := 33)
              refine hK.out _ _ ⟨HJ.cell y1, HJ.cell y2⟩ ?_
              clear hK
              generalize World.alloc _ (.cells #[.slice none 0 0, .slice none 0 0, .slice none 0 0] 33) = Wx at HJ ⊢
              try simp only [Act.put, List.setIfInBounds_toArray, List.set_cons_zero, List.set_cons_succ]
              obtain ⟨o0, o1, o2, of, ol⟩ := row3 HJ.ho
              refine AnyT.last (by kernel_rfl) rfl (by kernel_rfl) (fun K hK => ?_)
              go_simp
              refine hK.out _ _ ?_
              clear hK
              try simp only [Act.put, List.setIfInBounds_toArray, List.set_cons_zero, List.set_cons_succ]
              have h2 := set3 HJ.ho (.slice none 0 0) (.slice B1 s.Bases.length d1) (.slice B2 s.Entries.length d2)
              have HJ := HJ.store h2.2 h2.1 hgo
              go_wp2_with (fail)
              go_meet
              exact ⟨_, B1, B2, d1, d2, S1, S2, rfl, HJ, hgo⟩
          · go_simp
            have hgo := HJ.hg.size
            have HJ := HJ.allocO (cs := #[.slice none 0 0, .slice none 0 0, .slice none 0 0]) (t := 33)
            refine hK.out _ _ ⟨HJ.cell y1, HJ.cell y2⟩ ?_
            clear hK
            generalize World.alloc _ (.cells #[.slice none 0 0, .slice none 0 0, .slice none 0 0] 33) = Wx at HJ ⊢
            try simp only [Act.put, List.setIfInBounds_toArray, List.set_cons_zero, List.set_cons_succ]
            refine AnyT.some1 (i := 7) (by kernel_rfl) rfl (fun K hK => ?_) 
            · refine step_append_hasl (L := s.Entries.length) rfl (.tmp 9) (.tmp 11) elInt flat_int HJ.hb (Ty.up _ hd2 HJ.hg) rfl rfl rfl (Nat.zero_add _).symm (by omega) (by omega) ?_
              intro B2 d2 W2 S2 hon hH hS
              rw [List.nil_append] at hH
              have HJ := HJ.appB hon hH hS
              refine hK.out _ _ ⟨HJ.cell y1, HJ.cell y2⟩ ?_
              clear hK
              try simp only [Act.put, List.setIfInBounds_toArray, List.set_cons_zero, List.set_cons_succ]
              refine AnyT.take (i := 8) (cs := [10]) rfl (by kernel_rfl) (by kernel_rfl) (by kernel_rfl) (by kernel_rfl) rfl (by kernel_rfl) (fun _ _ _ h => h) ⟨HJ.cell y1, HJ.cell y2⟩ (by rfl) (by intro w hSw; (try dsimp only at hSw); go_simp; (try with_reducible rfl)) ?_
              try simp only [Act.put, List.setIfInBounds_toArray, List.set_cons_zero, List.set_cons_succ]
              obtain ⟨o0, o1, o2, of, ol⟩ := row3 HJ.ho
              refine AnyT.last (by kernel_rfl) rfl (by kernel_rfl) (fun K hK => ?_)
              go_simp
              refine hK.out _ _ ?_
              clear hK
              try simp only [Act.put, List.setIfInBounds_toArray, List.set_cons_zero, List.set_cons_succ]
              have h2 := set3 HJ.ho (.slice none 0 0) (.slice B1 s.Bases.length d1) (.slice B2 s.Entries.length d2)
              have HJ := HJ.store h2.2 h2.1 hgo
              go_wp2_with (fail)
              go_meet
              exact ⟨_, B1, B2, d1, d2, S1, S2, rfl, HJ, hgo⟩
        · go_simp
          have hgo := HJ.hg.size
          have HJ := HJ.allocO (cs := #[.slice none 0 0, .slice none 0 0, .slice none 0 0]) (t := 33)
          refine hK.out _ _ ⟨HJ.cell y1, HJ.cell y2⟩ ?_
          clear hK
          generalize World.alloc _ (.cells #[.slice none 0 0, .slice none 0 0, .slice none 0 0] 33) = Wx at HJ ⊢
          try simp only [Act.put, List.setIfInBounds_toArray, List.set_cons_zero, List.set_cons_succ]
          refine AnyT.some1 (i := 3) (by kernel_rfl) rfl (fun K hK => ?_) 
          · refine step_append_hasl (L := s.Bases.length) rfl (.tmp 5) (.tmp 7) elInt flat_int HJ.ha (Ty.up _ hd1 HJ.hg) rfl rfl rfl (Nat.zero_add _).symm (by omega) (by omega) ?_
            intro B1 d1 W1 S1 hon hH hS
            rw [List.nil_append] at hH
            have HJ := HJ.appA hon hH hS
            refine hK.out _ _ ⟨HJ.cell y1, HJ.cell y2⟩ ?_
            clear hK
            try simp only [Act.put, List.setIfInBounds_toArray, List.set_cons_zero, List.set_cons_succ]
            refine AnyT.some1 (i := 7) (by kernel_rfl) rfl (fun K hK => ?_) 
            · refine step_append_hasl (L := s.Entries.length) rfl (.tmp 9) (.tmp 11) elInt flat_int HJ.hb (Ty.up _ hd2 HJ.hg) rfl rfl rfl (Nat.zero_add _).symm (by omega) (by omega) ?_
              intro B2 d2 W2 S2 hon hH hS
              rw [List.nil_append] at hH
              have HJ := HJ.appB hon hH hS
              refine hK.out _ _ ⟨HJ.cell y1, HJ.cell y2⟩ ?_
              clear hK
              try simp only [Act.put, List.setIfInBounds_toArray, List.set_cons_zero, List.set_cons_succ]
              refine AnyT.take (i := 8) (cs := [10]) rfl (by kernel_rfl) (by kernel_rfl) (by kernel_rfl) (by kernel_rfl) rfl (by kernel_rfl) (fun _ _ _ h => h) ⟨HJ.cell y1, HJ.cell y2⟩ (by rfl) (by intro w hSw; (try dsimp only at hSw); go_simp; (try with_reducible rfl)) ?_
              try simp only [Act.put, List.setIfInBounds_toArray, List.set_cons_zero, List.set_cons_succ]
              obtain ⟨o0, o1, o2, of, ol⟩ := row3 HJ.ho
              refine AnyT.last (by kernel_rfl) rfl (by kernel_rfl) (fun K hK => ?_)
              go_simp
              refine hK.out _ _ ?_
              clear hK
              try simp only [Act.put, List.setIfInBounds_toArray, List.set_cons_zero, List.set_cons_succ]
              have h2 := set3 HJ.ho (.slice none 0 0) (.slice B1 s.Bases.length d1) (.slice B2 s.Entries.length d2)
              have HJ := HJ.store h2.2 h2.1 hgo
              go_wp2_with (fail)
              go_meet
              exact ⟨_, B1, B2, d1, d2, S1, S2, rfl, HJ, hgo⟩
      · go_simp
        have hgo := HJ.hg.size
        have HJ := HJ.allocO (cs := #[.slice none 0 0, .slice none 0 0, .slice none 0 0]) (t := 33)
        refine hK.out _ _ ⟨HJ.cell y1, HJ.cell y2⟩ ?_
        clear hK
        generalize World.alloc _ (.cells #[.slice none 0 0, .slice none 0 0, .slice none 0 0] 33) = Wx at HJ ⊢
        try simp only [Act.put, List.setIfInBounds_toArray, List.set_cons_zero, List.set_cons_succ]
        refine AnyT.some2 (i := 3) (j := 4) (by kernel_rfl) rfl rfl (fun K hK => ?_) (fun K hK => ?_) 
        · refine step_append_hasl (L := s.Bases.length) rfl (.tmp 5) (.tmp 7) elInt flat_int HJ.ha (Ty.up _ hd1 HJ.hg) rfl rfl rfl (Nat.zero_add _).symm (by omega) (by omega) ?_
          intro B1 d1 W1 S1 hon hH hS
          rw [List.nil_append] at hH
          have HJ := HJ.appA hon hH hS
          refine hK.out _ _ ⟨HJ.cell y1, HJ.cell y2⟩ ?_
          clear hK
          try simp only [Act.put, List.setIfInBounds_toArray, List.set_cons_zero, List.set_cons_succ]
          refine AnyT.some1 (i := 4) (by kernel_rfl) rfl (fun K hK => ?_) 
          · go_simp
            have HJ := HJ.allocB
            refine hK.out _ _ ⟨HJ.cell y1, HJ.cell y2⟩ ?_
            clear hK
            generalize World.alloc _ (.cells #[] 3) = Wx at HJ ⊢
            try simp only [Act.put, List.setIfInBounds_toArray, List.set_cons_zero, List.set_cons_succ]
            refine AnyT.some1 (i := 7) (by kernel_rfl) rfl (fun K hK => ?_) 
            · refine step_append_hasl (L := s.Entries.length) rfl (.tmp 9) (.tmp 11) elInt flat_int HJ.hb (Ty.up _ hd2 HJ.hg) rfl rfl rfl (Nat.zero_add _).symm (by omega) (by omega) ?_
              intro B2 d2 W2 S2 hon hH hS
              rw [List.nil_append] at hH
              have HJ := HJ.appB hon hH hS
              refine hK.out _ _ ⟨HJ.cell y1, HJ.cell y2⟩ ?_
              clear hK
              try simp only [Act.put, List.setIfInBounds_toArray, List.set_cons_zero, List.set_cons_succ]
              refine AnyT.take (i := 8) (cs := [10]) rfl (by kernel_rfl) (by kernel_rfl) (by kernel_rfl) (by kernel_rfl) rfl (by kernel_rfl) (fun _ _ _ h => h) ⟨HJ.cell y1, HJ.cell y2⟩ (by rfl) (by intro w hSw; (try dsimp only at hSw); go_simp; (try with_reducible rfl)) ?_
              try simp only [Act.put, List.setIfInBounds_toArray, List.set_cons_zero, List.set_cons_succ]
              obtain ⟨o0, o1, o2, of, ol⟩ := row3 HJ.ho
              refine AnyT.last (by kernel_rfl) rfl (by kernel_rfl) (fun K hK => ?_)
              go_simp
              refine hK.out _ _ ?_
              clear hK
              try simp only [Act.put, List.setIfInBounds_toArray, List.set_cons_zero, List.set_cons_succ]
              have h2 := set3 HJ.ho (.slice none 0 0) (.slice B1 s.Bases.length d1) (.slice B2 s.Entries.length d2)
              have HJ := HJ.store h2.2 h2.1 hgo
              go_wp2_with (fail)
              go_meet
              exact ⟨_, B1, B2, d1, d2, S1, S2, rfl, HJ, hgo⟩
        · go_simp
          have HJ := HJ.allocB
          refine hK.out _ _ ⟨HJ.cell y1, HJ.cell y2⟩ ?_
          clear hK
          generalize World.alloc _ (.cells #[] 3) = Wx at HJ ⊢
          try simp only [Act.put, List.setIfInBounds_toArray, List.set_cons_zero, List.set_cons_succ]
          refine AnyT.some1 (i := 3) (by kernel_rfl) rfl (fun K hK => ?_) 
          · refine step_append_hasl (L := s.Bases.length) rfl (.tmp 5) (.tmp 7) elInt flat_int HJ.ha (Ty.up _ hd1 HJ.hg) rfl rfl rfl (Nat.zero_add _).symm (by omega) (by omega) ?_
            intro B1 d1 W1 S1 hon hH hS
            rw [List.nil_append] at hH
            have HJ := HJ.appA hon hH hS
            refine hK.out _ _ ⟨HJ.cell y1, HJ.cell y2⟩ ?_
            clear hK
            try simp only [Act.put, List.setIfInBounds_toArray, List.set_cons_zero, List.set_cons_succ]
            refine AnyT.some1 (i := 7) (by kernel_rfl) rfl (fun K hK => ?_) 
            · refine step_append_hasl (L := s.Entries.length) rfl (.tmp 9) (.tmp 11) elInt flat_int HJ.hb (Ty.up _ hd2 HJ.hg) rfl rfl rfl (Nat.zero_add _).symm (by omega) (by omega) ?_
              intro B2 d2 W2 S2 hon hH hS
              rw [List.nil_append] at hH
              have HJ := HJ.appB hon hH hS
              refine hK.out _ _ ⟨HJ.cell y1, HJ.cell y2⟩ ?_
              clear hK
              try simp only [Act.put, List.setIfInBounds_toArray, List.set_cons_zero, List.set_cons_succ]
              refine AnyT.take (i := 8) (cs := [10]) rfl (by kernel_rfl) (by kernel_rfl) (by kernel_rfl) (by kernel_rfl) rfl (by kernel_rfl) (fun _ _ _ h => h) ⟨HJ.cell y1, HJ.cell y2⟩ (by rfl) (by intro w hSw; (try dsimp only at hSw); go_simp; (try with_reducible rfl)) ?_
              try simp only [Act.put, List.setIfInBounds_toArray, List.set_cons_zero, List.set_cons_succ]
              obtain ⟨o0, o1, o2, of, ol⟩ := row3 HJ.ho
              refine AnyT.last (by kernel_rfl) rfl (by kernel_rfl) (fun K hK => ?_)
              go_simp
              refine hK.out _ _ ?_
              clear hK
              try simp only [Act.put, List.setIfInBounds_toArray, List.set_cons_zero, List.set_cons_succ]
              have h2 := set3 HJ.ho (.slice none 0 0) (.slice B1 s.Bases.length d1) (.slice B2 s.Entries.length d2)
              have HJ := HJ.store h2.2 h2.1 hgo
              go_wp2_with (fail)
              go_meet
              exact ⟨_, B1, B2, d1, d2, S1, S2, rfl, HJ, hgo⟩
    · go_simp
      have HJ := HJ.allocB
      refine hK.out _ _ ⟨HJ.cell y1, HJ.cell y2⟩ ?_
      clear hK
      generalize World.alloc _ (.cells #[] 3) = Wx at HJ ⊢
      try simp only [Act.put, List.setIfInBounds_toArray, List.set_cons_zero, List.set_cons_succ]
      refine AnyT.some2 (i := 0) (j := 9) (by kernel_rfl) rfl rfl (fun K hK => ?_) (fun K hK => ?_) 
      · go_simp
        have HJ := HJ.allocA
        refine hK.out _ _ ⟨HJ.cell y1, HJ.cell y2⟩ ?_
        clear hK
        generalize World.alloc _ (.cells #[] 3) = Wx at HJ ⊢
        try simp only [Act.put, List.setIfInBounds_toArray, List.set_cons_zero, List.set_cons_succ]
        refine AnyT.some2 (i := 3) (j := 9) (by kernel_rfl) rfl rfl (fun K hK => ?_) (fun K hK => ?_) 
        · refine step_append_hasl (L := s.Bases.length) rfl (.tmp 5) (.tmp 7) elInt flat_int HJ.ha (Ty.up _ hd1 HJ.hg) rfl rfl rfl (Nat.zero_add _).symm (by omega) (by omega) ?_
          intro B1 d1 W1 S1 hon hH hS
          rw [List.nil_append] at hH
          have HJ := HJ.appA hon hH hS
          refine hK.out _ _ ⟨HJ.cell y1, HJ.cell y2⟩ ?_
          clear hK
          try simp only [Act.put, List.setIfInBounds_toArray, List.set_cons_zero, List.set_cons_succ]
          refine AnyT.some2 (i := 7) (j := 9) (by kernel_rfl) rfl rfl (fun K hK => ?_) (fun K hK => ?_) 
          · refine step_append_hasl (L := s.Entries.length) rfl (.tmp 9) (.tmp 11) elInt flat_int HJ.hb (Ty.up _ hd2 HJ.hg) rfl rfl rfl (Nat.zero_add _).symm (by omega) (by omega) ?_
            intro B2 d2 W2 S2 hon hH hS
            rw [List.nil_append] at hH
            have HJ := HJ.appB hon hH hS
            refine hK.out _ _ ⟨HJ.cell y1, HJ.cell y2⟩ ?_
            clear hK
            try simp only [Act.put, List.setIfInBounds_toArray, List.set_cons_zero, List.set_cons_succ]
            refine AnyT.take (i := 8) (cs := [10]) rfl (by kernel_rfl) (by kernel_rfl) (by kernel_rfl) (by kernel_rfl) rfl (by kernel_rfl) (fun _ _ _ h => h) ⟨HJ.cell y1, HJ.cell y2⟩ (by rfl) (by intro w hSw; (try dsimp only at hSw); go_simp; (try with_reducible rfl)) ?_
            try simp only [Act.put, List.setIfInBounds_toArray, List.set_cons_zero, List.set_cons_succ]
            refine AnyT.some1 (i := 9) (by kernel_rfl) rfl (fun K hK => ?_) 
            · go_simp
              have hgo := HJ.hg.size
              have HJ := HJ.allocO (cs := #[.slice none 0 0, .slice none 0 0, .slice none 0 0]) (t := 33)
              refine hK.out _ _ ⟨HJ.cell y1, HJ.cell y2⟩ ?_
              clear hK
              generalize World.alloc _ (.cells #[.slice none 0 0, .slice none 0 0, .slice none 0 0] 33) = Wx at HJ ⊢
              try simp only [Act.put, List.setIfInBounds_toArray, List.set_cons_zero, List.set_cons_succ]
              obtain ⟨o0, o1, o2, of, ol⟩ := row3 HJ.ho
              refine AnyT.last (by kernel_rfl) rfl (by kernel_rfl) (fun K hK => ?_)
              go_simp
              refine hK.out _ _ ?_
              clear hK
              try simp only [Act.put, List.setIfInBounds_toArray, List.set_cons_zero, List.set_cons_succ]
              have h2 := set3 HJ.ho (.slice none 0 0) (.slice B1 s.Bases.length d1) (.slice B2 s.Entries.length d2)
              have HJ := HJ.store h2.2 h2.1 hgo
              go_wp2_with (fail)
              go_meet
              exact ⟨_, B1, B2, d1, d2, S1, S2, rfl, HJ, hgo⟩
          · go_simp
            have hgo := HJ.hg.size
            have HJ := HJ.allocO (cs := #[.slice none 0 0, .slice none 0 0, .slice none 0 0]) (t := 33)
            refine hK.out _ _ ⟨HJ.cell y1, HJ.cell y2⟩ ?_
            clear hK
            generalize World.alloc _ (.cells #[.slice none 0 0, .slice none 0 0, .slice none 0 0] 33) = Wx at HJ ⊢
            try simp only [Act.put, List.setIfInBounds_toArray, List.set_cons_zero, List.set_cons_succ]
            refine AnyT.some1 (i := 7) (by kernel_rfl) rfl (fun K hK => ?_) 
            · refine step_append_hasl (L := s.Entries.length) rfl (.tmp 9) (.tmp 11) elInt flat_int HJ.hb (Ty.up _ hd2 HJ.hg) rfl rfl rfl (Nat.zero_add _).symm (by omega) (by omega) ?_
              intro B2 d2 W2 S2 hon hH hS
              rw [List.nil_append] at hH
              have HJ := HJ.appB hon hH hS
              refine hK.out _ _ ⟨HJ.cell y1, HJ.cell y2⟩ ?_
              clear hK
              try simp only [Act.put, List.setIfInBounds_toArray, List.set_cons_zero, List.set_cons_succ]
              refine AnyT.take (i := 8) (cs := [10]) rfl (by kernel_rfl) (by kernel_rfl) (by kernel_rfl) (by kernel_rfl) rfl (by kernel_rfl) (fun _ _ _ h => h) ⟨HJ.cell y1, HJ.cell y2⟩ (by rfl) (by intro w hSw; (try dsimp only at hSw); go_simp; (try with_reducible rfl)) ?_
              try simp only [Act.put, List.setIfInBounds_toArray, List.set_cons_zero, List.set_cons_succ]
              obtain ⟨o0, o1, o2, of, ol⟩ := row3 HJ.ho
              refine AnyT.last (by kernel_rfl) rfl (by kernel_rfl) (fun K hK => ?_)
              go_simp
              refine hK.out _ _ ?_
              clear hK
              try simp only [Act.put, List.setIfInBounds_toArray, List.set_cons_zero, List.set_cons_succ]
              have h2 := set3 HJ.ho (.slice none 0 0) (.slice B1 s.Bases.length d1) (.slice B2 s.Entries.length d2)
              have HJ := HJ.store h2.2 h2.1 hgo
              go_wp2_with (fail)
              go_meet
              exact ⟨_, B1, B2, d1, d2, S1, S2, rfl, HJ, hgo⟩
        · go_simp
          have hgo := HJ.hg.size
          have HJ := HJ.allocO (cs := #[.slice none 0 0, .slice none 0 0, .slice none 0 0]) (t := 33)
          refine hK.out _ _ ⟨HJ.cell y1, HJ.cell y2⟩ ?_
          clear hK
          generalize World.alloc _ (.cells #[.slice none 0 0, .slice none 0 0, .slice none 0 0] 33) = Wx at HJ ⊢
          try simp only [Act.put, List.setIfInBounds_toArray, List.set_cons_zero, List.set_cons_succ]
          refine AnyT.some1 (i := 3) (by kernel_rfl) rfl (fun K hK => ?_) 
          · refine step_append_hasl (L := s.Bases.length) rfl (.tmp 5) (.tmp 7) elInt flat_int HJ.ha (Ty.up _ hd1 HJ.hg) rfl rfl rfl (Nat.zero_add _).symm (by omega) (by omega) ?_
            intro B1 d1 W1 S1 hon hH hS
            rw [List.nil_append] at hH
            have HJ := HJ.appA hon hH hS
            refine hK.out _ _ ⟨HJ.cell y1, HJ.cell y2⟩ ?_
            clear hK
            try simp only [Act.put, List.setIfInBounds_toArray, List.set_cons_zero, List.set_cons_succ]
            refine AnyT.some1 (i := 7) (by kernel_rfl) rfl (fun K hK => ?_) 
            · refine step_append_hasl (L := s.Entries.length) rfl (.tmp 9) (.tmp 11) elInt flat_int HJ.hb (Ty.up _ hd2 HJ.hg) rfl rfl rfl (Nat.zero_add _).symm (by omega) (by omega) ?_
              intro B2 d2 W2 S2 hon hH hS
              rw [List.nil_append] at hH
              have HJ := HJ.appB hon hH hS
              refine hK.out _ _ ⟨HJ.cell y1, HJ.cell y2⟩ ?_
              clear hK
              try simp only [Act.put, List.setIfInBounds_toArray, List.set_cons_zero, List.set_cons_succ]
              refine AnyT.take (i := 8) (cs := [10]) rfl (by kernel_rfl) (by kernel_rfl) (by kernel_rfl) (by kernel_rfl) rfl (by kernel_rfl) (fun _ _ _ h => h) ⟨HJ.cell y1, HJ.cell y2⟩ (by rfl) (by intro w hSw; (try dsimp only at hSw); go_simp; (try with_reducible rfl)) ?_
              try simp only [Act.put, List.setIfInBounds_toArray, List.set_cons_zero, List.set_cons_succ]
              obtain ⟨o0, o1, o2, of, ol⟩ := row3 HJ.ho
              refine AnyT.last (by kernel_rfl) rfl (by kernel_rfl) (fun K hK => ?_)
              go_simp
              refine hK.out _ _ ?_
              clear hK
              try simp only [Act.put, List.setIfInBounds_toArray, List.set_cons_zero, List.set_cons_succ]
              have h2 := set3 HJ.ho (.slice none 0 0) (.slice B1 s.Bases.length d1) (.slice B2 s.Entries.length d2)
              have HJ := HJ.store h2.2 h2.1 hgo
              go_wp2_with (fail)
              go_meet
              exact ⟨_, B1, B2, d1, d2, S1, S2, rfl, HJ, hgo⟩
      · go_simp
        have hgo := HJ.hg.size
        have HJ := HJ.allocO (cs := #[.slice none 0 0, .slice none 0 0, .slice none 0 0]) (t := 33)
        refine hK.out _ _ ⟨HJ.cell y1, HJ.cell y2⟩ ?_
        clear hK
        generalize World.alloc _ (.cells #[.slice none 0 0, .slice none 0 0, .slice none 0 0] 33) = Wx at HJ ⊢
        try simp only [Act.put, List.setIfInBounds_toArray, List.set_cons_zero, List.set_cons_succ]
        refine AnyT.some1 (i := 0) (by kernel_rfl) rfl (fun K hK => ?_) 
        · go_simp
          have HJ := HJ.allocA
          refine hK.out _ _ ⟨HJ.cell y1, HJ.cell y2⟩ ?_
          clear hK
          generalize World.alloc _ (.cells #[] 3) = Wx at HJ ⊢
          try simp only [Act.put, List.setIfInBounds_toArray, List.set_cons_zero, List.set_cons_succ]
          refine AnyT.some1 (i := 3) (by kernel_rfl) rfl (fun K hK => ?_) 
          · refine step_append_hasl (L := s.Bases.length) rfl (.tmp 5) (.tmp 7) elInt flat_int HJ.ha (Ty.up _ hd1 HJ.hg) rfl rfl rfl (Nat.zero_add _).symm (by omega) (by omega) ?_
            intro B1 d1 W1 S1 hon hH hS
            rw [List.nil_append] at hH
            have HJ := HJ.appA hon hH hS
            refine hK.out _ _ ⟨HJ.cell y1, HJ.cell y2⟩ ?_
            clear hK
            try simp only [Act.put, List.setIfInBounds_toArray, List.set_cons_zero, List.set_cons_succ]
            refine AnyT.some1 (i := 7) (by kernel_rfl) rfl (fun K hK => ?_) 
            · refine step_append_hasl (L := s.Entries.length) rfl (.tmp 9) (.tmp 11) elInt flat_int HJ.hb (Ty.up _ hd2 HJ.hg) rfl rfl rfl (Nat.zero_add _).symm (by omega) (by omega) ?_
              intro B2 d2 W2 S2 hon hH hS
              rw [List.nil_append] at hH
              have HJ := HJ.appB hon hH hS
              refine hK.out _ _ ⟨HJ.cell y1, HJ.cell y2⟩ ?_
              clear hK
              try simp only [Act.put, List.setIfInBounds_toArray, List.set_cons_zero, List.set_cons_succ]
              refine AnyT.take (i := 8) (cs := [10]) rfl (by kernel_rfl) (by kernel_rfl) (by kernel_rfl) (by kernel_rfl) rfl (by kernel_rfl) (fun _ _ _ h => h) ⟨HJ.cell y1, HJ.cell y2⟩ (by rfl) (by intro w hSw; (try dsimp only at hSw); go_simp; (try with_reducible rfl)) ?_
              try simp only [Act.put, List.setIfInBounds_toArray, List.set_cons_zero, List.set_cons_succ]
              obtain ⟨o0, o1, o2, of, ol⟩ := row3 HJ.ho
              refine AnyT.last (by kernel_rfl) rfl (by kernel_rfl) (fun K hK => ?_)
              go_simp
              refine hK.out _ _ ?_
              clear hK
              try simp only [Act.put, List.setIfInBounds_toArray, List.set_cons_zero, List.set_cons_succ]
              have h2 := set3 HJ.ho (.slice none 0 0) (.slice B1 s.Bases.length d1) (.slice B2 s.Entries.length d2)
              have HJ := HJ.store h2.2 h2.1 hgo
              go_wp2_with (fail)
              go_meet
              exact ⟨_, B1, B2, d1, d2, S1, S2, rfl, HJ, hgo⟩
    · go_simp
      have hgo := HJ.hg.size
      have HJ := HJ.allocO (cs := #[.slice none 0 0, .slice none 0 0, .slice none 0 0]) (t := 33)
      refine hK.out _ _ ⟨HJ.cell y1, HJ.cell y2⟩ ?_
      clear hK
      generalize World.alloc _ (.cells #[.slice none 0 0, .slice none 0 0, .slice none 0 0] 33) = Wx at HJ ⊢
      try simp only [Act.put, List.setIfInBounds_toArray, List.set_cons_zero, List.set_cons_succ]
      refine AnyT.some2 (i := 0) (j := 4) (by kernel_rfl) rfl rfl (fun K hK => ?_) (fun K hK => ?_) 
      · go_simp
        have HJ := HJ.allocA
        refine hK.out _ _ ⟨HJ.cell y1, HJ.cell y2⟩ ?_
        clear hK
        generalize World.alloc _ (.cells #[] 3) = Wx at HJ ⊢
        try simp only [Act.put, List.setIfInBounds_toArray, List.set_cons_zero, List.set_cons_succ]
        refine AnyT.some2 (i := 3) (j := 4) (by kernel_rfl) rfl rfl (fun K hK => ?_) (fun K hK => ?_) 
        · refine step_append_hasl (L := s.Bases.length) rfl (.tmp 5) (.tmp 7) elInt flat_int HJ.ha (Ty.up _ hd1 HJ.hg) rfl rfl rfl (Nat.zero_add _).symm (by omega) (by omega) ?_
          intro B1 d1 W1 S1 hon hH hS
          rw [List.nil_append] at hH
          have HJ := HJ.appA hon hH hS
          refine hK.out _ _ ⟨HJ.cell y1, HJ.cell y2⟩ ?_
          clear hK
          try simp only [Act.put, List.setIfInBounds_toArray, List.set_cons_zero, List.set_cons_succ]
          refine AnyT.some1 (i := 4) (by kernel_rfl) rfl (fun K hK => ?_) 
          · go_simp
            have HJ := HJ.allocB
            refine hK.out _ _ ⟨HJ.cell y1, HJ.cell y2⟩ ?_
            clear hK
            generalize World.alloc _ (.cells #[] 3) = Wx at HJ ⊢
            try simp only [Act.put, List.setIfInBounds_toArray, List.set_cons_zero, List.set_cons_succ]
            refine AnyT.some1 (i := 7) (by kernel_rfl) rfl (fun K hK => ?_) 
            · refine step_append_hasl (L := s.Entries.length) rfl (.tmp 9) (.tmp 11) elInt flat_int HJ.hb (Ty.up _ hd2 HJ.hg) rfl rfl rfl (Nat.zero_add _).symm (by omega) (by omega) ?_
              intro B2 d2 W2 S2 hon hH hS
              rw [List.nil_append] at hH
              have HJ := HJ.appB hon hH hS
              refine hK.out _ _ ⟨HJ.cell y1, HJ.cell y2⟩ ?_
              clear hK
              try simp only [Act.put, List.setIfInBounds_toArray, List.set_cons_zero, List.set_cons_succ]
              refine AnyT.take (i := 8) (cs := [10]) rfl (by kernel_rfl) (by kernel_rfl) (by kernel_rfl) (by kernel_rfl) rfl (by kernel_rfl) (fun _ _ _ h => h) ⟨HJ.cell y1, HJ.cell y2⟩ (by rfl) (by intro w hSw; (try dsimp only at hSw); go_simp; (try with_reducible rfl)) ?_
              try simp only [Act.put, List.setIfInBounds_toArray, List.set_cons_zero, List.set_cons_succ]
              obtain ⟨o0, o1, o2, of, ol⟩ := row3 HJ.ho
              refine AnyT.last (by kernel_rfl) rfl (by kernel_rfl) (fun K hK => ?_)
              go_simp
              refine hK.out _ _ ?_
              clear hK
              try simp only [Act.put, List.setIfInBounds_toArray, List.set_cons_zero, List.set_cons_succ]
              have h2 := set3 HJ.ho (.slice none 0 0) (.slice B1 s.Bases.length d1) (.slice B2 s.Entries.length d2)
              have HJ := HJ.store h2.2 h2.1 hgo
              go_wp2_with (fail)
              go_meet
              exact ⟨_, B1, B2, d1, d2, S1, S2, rfl, HJ, hgo⟩
        · go_simp
          have HJ := HJ.allocB
          refine hK.out _ _ ⟨HJ.cell y1, HJ.cell y2⟩ ?_
          clear hK
          generalize World.alloc _ (.cells #[] 3) = Wx at HJ ⊢
          try simp only [Act.put, List.setIfInBounds_toArray, List.set_cons_zero, List.set_cons_succ]
          refine AnyT.some1 (i := 3) (by kernel_rfl) rfl (fun K hK => ?_) 
          · refine step_append_hasl (L := s.Bases.length) rfl (.tmp 5) (.tmp 7) elInt flat_int HJ.ha (Ty.up _ hd1 HJ.hg) rfl rfl rfl (Nat.zero_add _).symm (by omega) (by omega) ?_
            intro B1 d1 W1 S1 hon hH hS
            rw [List.nil_append] at hH
            have HJ := HJ.appA hon hH hS
            refine hK.out _ _ ⟨HJ.cell y1, HJ.cell y2⟩ ?_
            clear hK
            try simp only [Act.put, List.setIfInBounds_toArray, List.set_cons_zero, List.set_cons_succ]
            refine AnyT.some1 (i := 7) (by kernel_rfl) rfl (fun K hK => ?_) 
            · refine step_append_hasl (L := s.Entries.length) rfl (.tmp 9) (.tmp 11) elInt flat_int HJ.hb (Ty.up _ hd2 HJ.hg) rfl rfl rfl (Nat.zero_add _).symm (by omega) (by omega) ?_
              intro B2 d2 W2 S2 hon hH hS
              rw [List.nil_append] at hH
              have HJ := HJ.appB hon hH hS
              refine hK.out _ _ ⟨HJ.cell y1, HJ.cell y2⟩ ?_
              clear hK
              try simp only [Act.put, List.setIfInBounds_toArray, List.set_cons_zero, List.set_cons_succ]
              refine AnyT.take (i := 8) (cs := [10]) rfl (by kernel_rfl) (by kernel_rfl) (by kernel_rfl) (by kernel_rfl) rfl (by kernel_rfl) (fun _ _ _ h => h) ⟨HJ.cell y1, HJ.cell y2⟩ (by rfl) (by intro w hSw; (try dsimp only at hSw); go_simp; (try with_reducible rfl)) ?_
              try simp only [Act.put, List.setIfInBounds_toArray, List.set_cons_zero, List.set_cons_succ]
              obtain ⟨o0, o1, o2, of, ol⟩ := row3 HJ.ho
              refine AnyT.last (by kernel_rfl) rfl (by kernel_rfl) (fun K hK => ?_)
              go_simp
              refine hK.out _ _ ?_
              clear hK
              try simp only [Act.put, List.setIfInBounds_toArray, List.set_cons_zero, List.set_cons_succ]
              have h2 := set3 HJ.ho (.slice none 0 0) (.slice B1 s.Bases.length d1) (.slice B2 s.Entries.length d2)
              have HJ := HJ.store h2.2 h2.1 hgo
              go_wp2_with (fail)
              go_meet
              exact ⟨_, B1, B2, d1, d2, S1, S2, rfl, HJ, hgo⟩
      · go_simp
        have HJ := HJ.allocB
        refine hK.out _ _ ⟨HJ.cell y1, HJ.cell y2⟩ ?_
        clear hK
        generalize World.alloc _ (.cells #[] 3) = Wx at HJ ⊢
        try simp only [Act.put, List.setIfInBounds_toArray, List.set_cons_zero, List.set_cons_succ]
        refine AnyT.some1 (i := 0) (by kernel_rfl) rfl (fun K hK => ?_) 
        · go_simp
          have HJ := HJ.allocA
          refine hK.out _ _ ⟨HJ.cell y1, HJ.cell y2⟩ ?_
          clear hK
          generalize World.alloc _ (.cells #[] 3) = Wx at HJ ⊢
          try simp only [Act.put, List.setIfInBounds_toArray, List.set_cons_zero, List.set_cons_succ]
          refine AnyT.some1 (i := 3) (by kernel_rfl) rfl (fun K hK => ?_) 
          · refine step_append_hasl (L := s.Bases.length) rfl (.tmp 5) (.tmp 7) elInt flat_int HJ.ha (Ty.up _ hd1 HJ.hg) rfl rfl rfl (Nat.zero_add _).symm (by omega) (by omega) ?_
            intro B1 d1 W1 S1 hon hH hS
            rw [List.nil_append] at hH
            have HJ := HJ.appA hon hH hS
            refine hK.out _ _ ⟨HJ.cell y1, HJ.cell y2⟩ ?_
            clear hK
            try simp only [Act.put, List.setIfInBounds_toArray, List.set_cons_zero, List.set_cons_succ]
            refine AnyT.some1 (i := 7) (by kernel_rfl) rfl (fun K hK => ?_) 
            · refine step_append_hasl (L := s.Entries.length) rfl (.tmp 9) (.tmp 11) elInt flat_int HJ.hb (Ty.up _ hd2 HJ.hg) rfl rfl rfl (Nat.zero_add _).symm (by omega) (by omega) ?_
              intro B2 d2 W2 S2 hon hH hS
              rw [List.nil_append] at hH
              have HJ := HJ.appB hon hH hS
              refine hK.out _ _ ⟨HJ.cell y1, HJ.cell y2⟩ ?_
              clear hK
              try simp only [Act.put, List.setIfInBounds_toArray, List.set_cons_zero, List.set_cons_succ]
              refine AnyT.take (i := 8) (cs := [10]) rfl (by kernel_rfl) (by kernel_rfl) (by kernel_rfl) (by kernel_rfl) rfl (by kernel_rfl) (fun _ _ _ h => h) ⟨HJ.cell y1, HJ.cell y2⟩ (by rfl) (by intro w hSw; (try dsimp only at hSw); go_simp; (try with_reducible rfl)) ?_
              try simp only [Act.put, List.setIfInBounds_toArray, List.set_cons_zero, List.set_cons_succ]
              obtain ⟨o0, o1, o2, of, ol⟩ := row3 HJ.ho
              refine AnyT.last (by kernel_rfl) rfl (by kernel_rfl) (fun K hK => ?_)
              go_simp
              refine hK.out _ _ ?_
              clear hK
              try simp only [Act.put, List.setIfInBounds_toArray, List.set_cons_zero, List.set_cons_succ]
              have h2 := set3 HJ.ho (.slice none 0 0) (.slice B1 s.Bases.length d1) (.slice B2 s.Entries.length d2)
              have HJ := HJ.store h2.2 h2.1 hgo
              go_wp2_with (fail)
              go_meet
              exact ⟨_, B1, B2, d1, d2, S1, S2, rfl, HJ, hgo⟩
  case rest =>
    obtain ⟨g3, B1, B2, d1, d2, S1, S2, rfl, HJ, hgo⟩ := hcut
    have hgg3 : g ≠ g3 := by omega
    have hl3 := (Array.getElem?_eq_some_iff.1 HJ.ho).1
    have hlI : s.Images.length ≤ 1099511627776 := by unfold szSpace szL at hs; omega
    have c0w := HJ.cell y0
    go_wp2_with (fail)
    go_loopw [4] (fun z wr => ∃ (j : Nat) (A : Option Addr) (c : Nat) (S : List Nat), z = .int .i64 j ∧ j ≤ s.Images.length ∧ Hid (OnlyS [g3] wc wr) ∧ Hid (wr.heap[g3]? = some (.cells #[.slice A j c, .slice B1 s.Bases.length d1, .slice B2 s.Entries.length d2] 33 (0, 0))) ∧ Hid (Has (tImage.sl 103) wr [.slice A j c] (s.Images.take j) S) ∧ Hid (∀ b ∈ S, wc.heap.size ≤ b)) (fun z _ => s.Images.length - (intOf z).toNat)
    case atStart => exact ⟨0, none, 0, [], rfl, Nat.zero_le _, Lib.hid (OnlyS.refl _ _), Lib.hid HJ.ho, Lib.hid (Has.nil _ _ _), Lib.hid (by simp)⟩
    case round =>
      obtain ⟨j, A, c, S, rfl, hj, ho, hb, hH, hS⟩ := hrel
      have hGr : Gro Y wr := ho.out.gro HJ.hg (fun b hb => by simp at hb; omega)
      have hwl : wc.heap.size ≤ wr.heap.size := ho.out.size
      have k0 := gcell hGr y0
      obtain ⟨o0, o1, o2, of, ol⟩ := row3 hb.out
      obtain ⟨z0, z1, z2, zf, zl2⟩ := row3 (grow_blk er hGr)
      by_cases hlt : j < s.Images.length
      · have hdw := hd0
        obtain ⟨gI, off, x, Ax, cx, rfl, hgI, hxk, m0, m1, p0, hsy⟩ := atImage hdw hlt
        have n0 := gcell hGr m0
        have n1 := gcell hGr m1
        have hsy2 := Ty.up _ hsy hGr
        have hki : (j : Int) < (s.Images.length : Int) := by omega
        have hxl : x.Symbols.length ≤ 1099511627776 := by have h2 : x.Symbols.length ≤ szImage x := (by unfold szImage szL; omega); have h1 := szL_elem szImage hxk; unfold szSpace at hs; omega
        have hgI3 : gI ≠ g3 := by omega
        go_upto_region 5 with (fail)
        refine region_T (fun w' => w'.cell? ⟨g, 0, none⟩ = some (.slice (some ⟨gI, off, none⟩) s.Images.length c0) ∧ w'.cell? ⟨g3, 0, none⟩ = some (.slice A j c) ∧ w'.cell? ⟨gI, off + j * 2, none⟩ = some (.string x.Code) ∧ w'.cell? ⟨gI, off + j * 2 + 1, none⟩ = some (.slice Ax x.Symbols.length cx)) 11 (by kernel_rfl) (And.intro (drew_keeps k0) (And.intro (drew_keeps o0) (And.intro (drew_keeps n0) (drew_keeps n1)))) (fun hS9 => ?_)
        refine AnyT.take (i := 0) (cs := [11]) rfl (by kernel_rfl) (by kernel_rfl) (by kernel_rfl) (by kernel_rfl) rfl (by kernel_rfl) (fun _ _ _ h => h) hS9 (by rfl) (by intro w hSw; (try dsimp only at hSw); go_simp; (try with_reducible rfl)) ?_
        try simp only [Act.put, List.setIfInBounds_toArray, List.set_cons_zero, List.set_cons_succ]
        refine AnyT.take (i := 1) (cs := [11]) rfl (by kernel_rfl) (by kernel_rfl) (by kernel_rfl) (by kernel_rfl) rfl (by kernel_rfl) (fun _ _ _ h => h) hS9 (by rfl) (by intro w hSw; (try dsimp only at hSw); go_simp; (try with_reducible rfl)) ?_
        try simp only [Act.put, List.setIfInBounds_toArray, List.set_cons_zero, List.set_cons_succ]
        refine AnyT.take (i := 2) (cs := [11]) rfl (by kernel_rfl) (by kernel_rfl) (by kernel_rfl) (by kernel_rfl) rfl (by kernel_rfl) (fun _ _ _ h => h) hS9 (by rfl) (by intro w hSw; (try dsimp only at hSw); go_simp; (try with_reducible rfl)) ?_
        try simp only [Act.put, List.setIfInBounds_toArray, List.set_cons_zero, List.set_cons_succ]
        refine AnyT.take (i := 3) (cs := [11]) rfl (by kernel_rfl) (by kernel_rfl) (by kernel_rfl) (by kernel_rfl) rfl (by kernel_rfl) (fun _ _ _ h => h) hS9 (by rfl) (by intro w hSw; (try dsimp only at hSw); go_simp; (try with_reducible rfl)) ?_
        try simp only [Act.put, List.setIfInBounds_toArray, List.set_cons_zero, List.set_cons_succ]
        refine AnyT.take (i := 4) (cs := [11]) rfl (by kernel_rfl) (by kernel_rfl) (by kernel_rfl) (by kernel_rfl) rfl (by kernel_rfl) (fun _ _ _ h => h) hS9 (by rfl) (by intro w hSw; (try dsimp only at hSw); go_simp; (try with_reducible rfl)) ?_
        try simp only [Act.put, List.setIfInBounds_toArray, List.set_cons_zero, List.set_cons_succ]
        refine AnyT.take (i := 5) (cs := [11]) rfl (by kernel_rfl) (by kernel_rfl) (by kernel_rfl) (by kernel_rfl) rfl (by kernel_rfl) (fun _ _ _ h => h) hS9 (by rfl) (by intro w hSw; (try dsimp only at hSw); go_simp; (try with_reducible rfl)) ?_
        try simp only [Act.put, List.setIfInBounds_toArray, List.set_cons_zero, List.set_cons_succ]
        refine AnyT.take (i := 6) (cs := [11]) rfl (by kernel_rfl) (by kernel_rfl) (by kernel_rfl) (by kernel_rfl) rfl (by kernel_rfl) (fun _ _ _ h => h) hS9 (by rfl) (by intro w hSw; (try dsimp only at hSw); go_simp; (try with_reducible rfl)) ?_
        try simp only [Act.put, List.setIfInBounds_toArray, List.set_cons_zero, List.set_cons_succ]
        refine AnyT.some1 (i := 7) (by kernel_rfl) rfl (fun K hK => ?_) 
        · go_simp
          go_at_call 89
          with_reducible refine (copyImage_s (x := x) p0 (Ty.up _ hsy2 (by repeat (first | with_reducible exact Gro.refl _ | with_reducible exact Gro.refl_drew _ _ _ | with_reducible exact Gro.refl_drewN _ _ _ _ | assumption | with_reducible apply Gro.more | with_reducible apply Gro.alloc | with_reducible apply Gro.drew | with_reducible apply Gro.drewN))) hxl).mono ?_
          rintro e w2 ⟨Bi, ci, rfl, hFi, os2, d2, rfl⟩
          have hS9 := And.intro (gro_keeps (drew_keeps k0) os2 d2) (And.intro (gro_keeps (drew_keeps o0) os2 d2) (And.intro (gro_keeps (drew_keeps n0) os2 d2) (gro_keeps (drew_keeps n1) os2 d2)))
          refine hK.out _ _ hS9 ?_
          clear hK
          try simp only [Act.put, List.setIfInBounds_toArray, List.set_cons_zero, List.set_cons_succ]
          refine AnyT.some1 (i := 8) (by kernel_rfl) rfl (fun K hK => ?_) 
          · go_simp
            have hS9 := And.intro (alloc_keeps (gro_keeps (drew_keeps k0) os2 d2) (.cells #[.string x.Code, .slice Bi x.Symbols.length ci] 103)) (And.intro (alloc_keeps (gro_keeps (drew_keeps o0) os2 d2) (.cells #[.string x.Code, .slice Bi x.Symbols.length ci] 103)) (And.intro (alloc_keeps (gro_keeps (drew_keeps n0) os2 d2) (.cells #[.string x.Code, .slice Bi x.Symbols.length ci] 103)) (alloc_keeps (gro_keeps (drew_keeps n1) os2 d2) (.cells #[.string x.Code, .slice Bi x.Symbols.length ci] 103))))
            refine hK.out _ _ hS9 ?_
            clear hK
            try simp only [Act.put, List.setIfInBounds_toArray, List.set_cons_zero, List.set_cons_succ]
            refine AnyT.some1 (i := 9) (by kernel_rfl) rfl (fun K hK => ?_) 
            · obtain ⟨Sy, hHy, hly⟩ := Fresh.has hFi
              have hdis : ∀ b ∈ S, b ∉ Sy := fun b hb' hm => by have h1 := hly b hm; have h2 := hH.out.lt b hb'; simp at h1; omega
              refine step_append_has (L := j + 1) rfl (.tmp 22) (.tmp 29) elImage (hH.out.gro (by (repeat (first | with_reducible exact Gro.refl _ | with_reducible exact Gro.refl_drew _ _ _ | with_reducible exact Gro.refl_drewN _ _ _ _ | assumption | with_reducible apply Gro.more | with_reducible apply Gro.alloc | with_reducible apply Gro.drew | with_reducible apply Gro.drewN)); done)) (hHy.gro (by (repeat (first | with_reducible exact Gro.refl _ | with_reducible exact Gro.refl_drew _ _ _ | with_reducible exact Gro.refl_drewN _ _ _ _ | assumption | with_reducible apply Gro.more | with_reducible apply Gro.alloc | with_reducible apply Gro.drew | with_reducible apply Gro.drewN)); done)) hdis rfl rfl rfl (by intro j u hu; simpa [go_sem] using hu) rfl (by omega) (by omega) ?_
              intro A7 c7 W7 S7 hon hH7 hS7
              have hgS : ∀ k, k < wc.heap.size → k ∉ S := fun k hk hm => by have := hS.out k hm; omega
              have e7 := frz_thru hb.out (by (repeat (first | with_reducible exact Gro.refl _ | with_reducible exact Gro.refl_drew _ _ _ | with_reducible exact Gro.refl_drewN _ _ _ _ | assumption | with_reducible apply Gro.more | with_reducible apply Gro.alloc | with_reducible apply Gro.drew | with_reducible apply Gro.drewN)); done) hon (hgS _ (by omega))
              have hS9 := And.intro (keep_thru k0 (by (repeat (first | with_reducible exact Gro.refl _ | with_reducible exact Gro.refl_drew _ _ _ | with_reducible exact Gro.refl_drewN _ _ _ _ | assumption | with_reducible apply Gro.more | with_reducible apply Gro.alloc | with_reducible apply Gro.drew | with_reducible apply Gro.drewN)); done) hon (hgS _ (by omega))) (And.intro (keep_thru o0 (by (repeat (first | with_reducible exact Gro.refl _ | with_reducible exact Gro.refl_drew _ _ _ | with_reducible exact Gro.refl_drewN _ _ _ _ | assumption | with_reducible apply Gro.more | with_reducible apply Gro.alloc | with_reducible apply Gro.drew | with_reducible apply Gro.drewN)); done) hon (hgS _ (by omega))) (And.intro (keep_thru n0 (by (repeat (first | with_reducible exact Gro.refl _ | with_reducible exact Gro.refl_drew _ _ _ | with_reducible exact Gro.refl_drewN _ _ _ _ | assumption | with_reducible apply Gro.more | with_reducible apply Gro.alloc | with_reducible apply Gro.drew | with_reducible apply Gro.drewN)); done) hon (hgS _ (by omega))) (keep_thru n1 (by (repeat (first | with_reducible exact Gro.refl _ | with_reducible exact Gro.refl_drew _ _ _ | with_reducible exact Gro.refl_drewN _ _ _ _ | assumption | with_reducible apply Gro.more | with_reducible apply Gro.alloc | with_reducible apply Gro.drew | with_reducible apply Gro.drewN)); done) hon (hgS _ (by omega)))))
              have hGo : Gro wr ((gro wr os2 d2).alloc (.cells #[.string x.Code, .slice Bi x.Symbols.length ci] 103)) := (by (repeat (first | with_reducible exact Gro.refl _ | with_reducible exact Gro.refl_drew _ _ _ | with_reducible exact Gro.refl_drewN _ _ _ _ | assumption | with_reducible apply Gro.more | with_reducible apply Gro.alloc | with_reducible apply Gro.drew | with_reducible apply Gro.drewN)); done)
              have hlo : ∀ b ∈ S7, wc.heap.size ≤ b := fun b hb' => by
                rcases hS7 b hb' with h | h | h
                · exact hS.out b h
                · have h8 : wr.heap.size ≤ b := hly b h
                  omega
                · have := hGo.size; omega
              have ho9 := only_step ho.out hGo hon hS.out 0 (.slice A7 (j + 1) c7)
              have hb9 := set_at (i := 0) (v := .slice A7 (j + 1) c7) e7 rfl
              have hH9 := hH7.keep ((OnlyS.refl [g3] W7).setCell (p := ⟨g3, 0, none⟩) (by simp) (.slice A7 (j + 1) c7)) (fun b hb' hm => by have := hlo b hb'; simp at hm; omega)
              refine hK.out _ _ hS9 ?_
              clear hK
              try simp only [Act.put, List.setIfInBounds_toArray, List.set_cons_zero, List.set_cons_succ]
              refine AnyT.take (i := 10) (cs := [11]) rfl (by kernel_rfl) (by kernel_rfl) (by kernel_rfl) (by kernel_rfl) rfl (by kernel_rfl) (fun _ _ _ h => h) hS9 (by rfl) (by intro w hSw; (try dsimp only at hSw); go_simp; (try with_reducible rfl)) ?_
              try simp only [Act.put, List.setIfInBounds_toArray, List.set_cons_zero, List.set_cons_succ]
              obtain ⟨a0, a1, a2, af, al⟩ := row3 e7
              refine AnyT.last (by kernel_rfl) rfl (by kernel_rfl) (fun K hK => ?_)
              go_simp
              refine hK.out _ _ ?_
              clear hK
              try simp only [Act.put, List.setIfInBounds_toArray, List.set_cons_zero, List.set_cons_succ]
              generalize W7.setCell ⟨g3, 0, none⟩ (.slice A7 (j + 1) c7) = X at ho9 hb9 hH9 ⊢
              clear hS9 hon hH7 hS7 e7 hb hH ho
              have htk : s.Images.take j ++ [x] = s.Images.take (j + 1) := by rw [List.take_add_one, hxk]; rfl
              rw [htk] at hH9
              go_wp2_with (fail)
              go_roundw
              case measure => (simp [intOf]; try omega)
              case rel => exact ⟨j + 1, A7, c7, S7, by simp, by omega, Lib.hid ho9, Lib.hid hb9, Lib.hid hH9, Lib.hid hlo⟩
      · obtain rfl : j = s.Images.length := by omega
        have hki : ¬ (s.Images.length : Int) < (s.Images.length : Int) := by omega
        have hHt := hH.out
        rw [List.take_length] at hHt
        go_wp2_with (fail)
        have h9 := set3 (grow_blk er hGr) (.slice A s.Images.length c) (.slice B1 s.Bases.length d1) (.slice B2 s.Entries.length d2)
        obtain ⟨r0, r1, r2, _, _⟩ := row3 h9.1
        have hHI := hHt.keep h9.2 (fun b hb' hm => by have := hS.out b hb'; simp at hm; omega)
        have hHa := (HJ.ha.keep ho.out (fun b hb' hm => by simp at hm; exact HJ.hoa (hm ▸ hb'))).keep h9.2 (fun b hb' hm => by have := HJ.la b hb'; simp at hm; omega)
        have hHb := (HJ.hb.keep ho.out (fun b hb' hm => by simp at hm; exact HJ.hob (hm ▸ hb'))).keep h9.2 (fun b hb' hm => by have := HJ.lb b hb'; simp at hm; omega)
        have hYw : w.heap.size ≤ Y.heap.size := hG0.size
        refine bodyPost_ret (v := .agg #[.slice A s.Images.length c, .slice B1 s.Bases.length d1, .slice B2 s.Entries.length d2]) (by simp [results, Try.results53, go_sem, r0, r1, r2]) rfl ⟨A, c, B1, d1, B2, d2, rfl, ⟨_, tSpace_mkOd hHI.1 hHa.1 hHb.1, ?_, ?_⟩, h9.2.gro (hG0.trans hGr) (fun b hb' => by simp at hb'; omega)⟩
        · refine List.nodup_append.2 ⟨List.nodup_append.2 ⟨hHI.2, hHa.2, fun a ha b hb' he => ?_⟩, hHb.2, fun a ha b hb' he => ?_⟩
          · have h1 := hS.out a ha
            have h2 := HJ.ha.lt b hb'
            omega
          · rcases List.mem_append.1 ha with ha | ha
            · have h1 := hS.out a ha
              have h2 := HJ.hb.lt b hb'
              omega
            · exact HJ.hab a ha (he ▸ hb')
        · intro b hb'
          rcases List.mem_append.1 hb' with hb' | hb'
          · rcases List.mem_append.1 hb' with hb' | hb'
            · have := hS.out b hb'
              omega
            · have := HJ.la b hb'
              omega
          · have := HJ.lb b hb'
            omega

set_option maxRecDepth 100000 in
set_option maxHeartbeats 8000000 in
theorem copySpace_i {s : DSpace} {w : World} {A0 A1 A2 : Option Addr} {c0 c1 c2 : Nat} (h0 : (tImage.sl 103).R w w.heap.size [.slice A0 s.Images.length c0] s.Images) (h1 : (intT.sl 3).R w w.heap.size [.slice A1 s.Bases.length c1] s.Bases)
    (h2 : (intT.sl 3).R w w.heap.size [.slice A2 s.Entries.length c2] s.Entries) (hs : szSpace s ≤ 1099511627776) :
    Calls Try.prog 57 #[.agg #[.slice A0 s.Images.length c0, .slice A1 s.Bases.length c1, .slice A2 s.Entries.length c2]] w (RetSpace s w) := by
  have hl1 : s.Bases.length ≤ 1099511627776 := by unfold szSpace at hs; omega
  have hl2 : s.Entries.length ≤ 1099511627776 := by unfold szSpace at hs; omega
  go_enter Try.func57, Try.ntmps57
  go_upto_region 1 with (fail)
  have hG0 : Gro w ((w.alloc (.cells #[.slice A0 s.Images.length c0, .slice A1 s.Bases.length c1, .slice A2 s.Entries.length c2] 33)).alloc (.cells #[.slice none 0 0, .slice none 0 0, .slice none 0 0] 33)) := (by repeat (first | with_reducible exact Gro.refl _ | with_reducible exact Gro.refl_drew _ _ _ | with_reducible exact Gro.refl_drewN _ _ _ _ | assumption | with_reducible apply Gro.more | with_reducible apply Gro.alloc | with_reducible apply Gro.drew | with_reducible apply Gro.drewN))
  have eb : ((w.alloc (.cells #[.slice A0 s.Images.length c0, .slice A1 s.Bases.length c1, .slice A2 s.Entries.length c2] 33)).alloc (.cells #[.slice none 0 0, .slice none 0 0, .slice none 0 0] 33)).heap[w.heap.size]? = some (.cells #[.slice A0 s.Images.length c0, .slice A1 s.Bases.length c1, .slice A2 s.Entries.length c2] 33 (0, 0)) := grow_blk (heap_alloc_new w _) (by (repeat (first | with_reducible exact Gro.refl _ | with_reducible exact Gro.refl_drew _ _ _ | with_reducible exact Gro.refl_drewN _ _ _ _ | assumption | with_reducible apply Gro.more | with_reducible apply Gro.alloc | with_reducible apply Gro.drew | with_reducible apply Gro.drewN)); done)
  have er : ((w.alloc (.cells #[.slice A0 s.Images.length c0, .slice A1 s.Bases.length c1, .slice A2 s.Entries.length c2] 33)).alloc (.cells #[.slice none 0 0, .slice none 0 0, .slice none 0 0] 33)).heap[w.heap.size + 1]? = some (.cells #[.slice none 0 0, .slice none 0 0, .slice none 0 0] 33 (0, 0)) := by have h := heap_alloc_new (w.alloc (.cells #[.slice A0 s.Images.length c0, .slice A1 s.Bases.length c1, .slice A2 s.Entries.length c2] 33)) (.cells #[.slice none 0 0, .slice none 0 0, .slice none 0 0] 33); rw [World.size_alloc] at h; exact h
  have hd0 := Ty.up _ h0 hG0
  have hd1 := Ty.up _ h1 hG0
  have hd2 := Ty.up _ h2 hG0
  obtain ⟨g, hg⟩ : ∃ g, w.heap.size = g := ⟨_, rfl⟩
  rw [hg] at eb er ⊢
  generalize ((w.alloc (.cells #[.slice A0 s.Images.length c0, .slice A1 s.Bases.length c1, .slice A2 s.Entries.length c2] 33)).alloc (.cells #[.slice none 0 0, .slice none 0 0, .slice none 0 0] 33)) = Y at hG0 eb er hd0 hd1 hd2 ⊢
  obtain ⟨y0, y1, y2, _, yl⟩ := row3 eb
  have zl := (row3 er).2.2.2.2
  clear h0 h1 h2
  go_cut [3] from 3 to 14 (fun v3 wx => ∃ (g3 : Nat) (B1 B2 : Option Addr) (d1 d2 : Nat) (S1 S2 : List Nat), v3 = .pointer (some ⟨g3, 0, none⟩) ∧ J3 intT intT 3 3 Y wx (.slice B1 s.Bases.length d1) (.slice B2 s.Entries.length d2) s.Bases s.Entries S1 S2 g3 (.cells #[.slice none 0 0, .slice B1 s.Bases.length d1, .slice B2 s.Entries.length d2] 33 (0, 0)) ∧ Y.heap.size ≤ g3)
  case first =>
    refine region_T (fun w' => w'.cell? ⟨g, 1, none⟩ = some (.slice A1 s.Bases.length c1) ∧ w'.cell? ⟨g, 2, none⟩ = some (.slice A2 s.Entries.length c2)) 10 (by kernel_rfl) ⟨drew_keeps y1, drew_keeps y2⟩ (fun hH => ?_)
    have HJ := J3.start (T := intT) (U := intT) (e := 3) (f := 3) er
    have HJ := HJ.gro ((Gro.refl _).drew)
    generalize hYd : Y.drew = Wx at HJ hH ⊢
    clear hYd
    refine AnyT.take (i := 1) (cs := [10]) rfl (by kernel_rfl) (by kernel_rfl) (by kernel_rfl) (by kernel_rfl) rfl (by kernel_rfl) (fun _ _ _ h => h) hH (by rfl) (by intro w hSw; (try dsimp only at hSw); go_simp; (try with_reducible rfl)) ?_
    try simp only [Act.put, List.setIfInBounds_toArray, List.set_cons_zero, List.set_cons_succ]
    refine AnyT.take (i := 2) (cs := [10]) rfl (by kernel_rfl) (by kernel_rfl) (by kernel_rfl) (by kernel_rfl) rfl (by kernel_rfl) (fun _ _ _ h => h) hH (by rfl) (by intro w hSw; (try dsimp only at hSw); go_simp; (try with_reducible rfl)) ?_
    try simp only [Act.put, List.setIfInBounds_toArray, List.set_cons_zero, List.set_cons_succ]
    refine AnyT.take (i := 5) (cs := [10]) rfl (by kernel_rfl) (by kernel_rfl) (by kernel_rfl) (by kernel_rfl) rfl (by kernel_rfl) (fun _ _ _ h => h) hH (by rfl) (by intro w hSw; (try dsimp only at hSw); go_simp; (try with_reducible rfl)) ?_
    try simp only [Act.put, List.setIfInBounds_toArray, List.set_cons_zero, List.set_cons_succ]
    refine AnyT.take (i := 6) (cs := [10]) rfl (by kernel_rfl) (by kernel_rfl) (by kernel_rfl) (by kernel_rfl) rfl (by kernel_rfl) (fun _ _ _ h => h) hH (by rfl) (by intro w hSw; (try dsimp only at hSw); go_simp; (try with_reducible rfl)) ?_
    try simp only [Act.put, List.setIfInBounds_toArray, List.set_cons_zero, List.set_cons_succ]
    refine AnyT.some3 (i := 0) (j := 4) (l := 9) (by kernel_rfl) rfl rfl rfl (fun K hK => ?_) (fun K hK => ?_) (fun K hK => ?_) 
    · go_simp
      have HJ := HJ.allocA
      refine hK.out _ _ ⟨HJ.cell y1, HJ.cell y2⟩ ?_
      clear hK
      generalize World.alloc _ (.cells #[] 3) = Wx at HJ ⊢
      try simp only [Act.put, List.setIfInBounds_toArray, List.set_cons_zero, List.set_cons_succ]
      refine AnyT.some3 (i := 3) (j := 4) (l := 9) (by kernel_rfl) rfl rfl rfl (fun K hK => ?_) (fun K hK => ?_) (fun K hK => ?_) 
      · refine step_append_hasl (L := s.Bases.length) rfl (.tmp 6) (.tmp 8) elInt flat_int HJ.ha (Ty.up _ hd1 HJ.hg) rfl rfl rfl (Nat.zero_add _).symm (by omega) (by omega) ?_
        intro B1 d1 W1 S1 hon hH hS
        rw [List.nil_append] at hH
        have HJ := HJ.appA hon hH hS
        refine hK.out _ _ ⟨HJ.cell y1, HJ.cell y2⟩ ?_
        clear hK
        try simp only [Act.put, List.setIfInBounds_toArray, List.set_cons_zero, List.set_cons_succ]
        refine AnyT.some2 (i := 4) (j := 9) (by kernel_rfl) rfl rfl (fun K hK => ?_) (fun K hK => ?_) 
        · go_simp
          have HJ := HJ.allocB
          refine hK.out _ _ ⟨HJ.cell y1, HJ.cell y2⟩ ?_
          clear hK
          generalize World.alloc _ (.cells #[] 3) = Wx at HJ ⊢
          try simp only [Act.put, List.setIfInBounds_toArray, List.set_cons_zero, List.set_cons_succ]
          refine AnyT.some2 (i := 7) (j := 9) (by kernel_rfl) rfl rfl (fun K hK => ?_) (fun K hK => ?_) 
          · refine step_append_hasl (L := s.Entries.length) rfl (.tmp 10) (.tmp 12) elInt flat_int HJ.hb (Ty.up _ hd2 HJ.hg) rfl rfl rfl (Nat.zero_add _).symm (by omega) (by omega) ?_
            intro B2 d2 W2 S2 hon hH hS
            rw [List.nil_append] at hH
            have HJ := HJ.appB hon hH hS
            refine hK.out _ _ ⟨HJ.cell y1, HJ.cell y2⟩ ?_
            clear hK
            try simp only [Act.put, List.setIfInBounds_toArray, List.set_cons_zero, List.set_cons_succ]
            refine AnyT.take (i := 8) (cs := [10]) rfl (by kernel_rfl) (by kernel_rfl) (by kernel_rfl) (by kernel_rfl) rfl (by kernel_rfl) (fun _ _ _ h => h) ⟨HJ.cell y1, HJ.cell y2⟩ (by rfl) (by intro w hSw; (try dsimp only at hSw); go_simp; (try with_reducible rfl)) ?_
            try simp only [Act.put, List.setIfInBounds_toArray, List.set_cons_zero, List.set_cons_succ]
            refine AnyT.some1 (i := 9) (by kernel_rfl) rfl (fun K hK => ?_) 
            · go_simp
              have hgo := HJ.hg.size
              have HJ := HJ.allocO (cs := #[.slice none 0 0, .slice none 0 0, .slice none 0 0]) (t := 33)
              refine hK.out _ _ ⟨HJ.cell y1, HJ.cell y2⟩ ?_
              clear hK
              generalize World.alloc _ (.cells #[.slice none 0 0, .slice none 0 0, .slice none 0 0] 33) = Wx at HJ ⊢
              try simp only [Act.put, List.setIfInBounds_toArray, List.set_cons_zero, List.set_cons_succ]
              obtain ⟨o0, o1, o2, of, ol⟩ := row3 HJ.ho
              refine AnyT.last (by kernel_rfl) rfl (by kernel_rfl) (fun K hK => ?_)
              go_simp
              refine hK.out _ _ ?_
              clear hK
              try simp only [Act.put, List.setIfInBounds_toArray, List.set_cons_zero, List.set_cons_succ]
              have h2 := set3 HJ.ho (.slice none 0 0) (.slice B1 s.Bases.length d1) (.slice B2 s.Entries.length d2)
              have HJ := HJ.store h2.2 h2.1 hgo
              go_wp2_with (fail)
              go_meet
              exact ⟨_, B1, B2, d1, d2, S1, S2, rfl, HJ, hgo⟩
          · go_simp
            have hgo := HJ.hg.size
            have HJ := HJ.allocO (cs := #[.slice none 0 0, .slice none 0 0, .slice none 0 0]) (t := 33)
            refine hK.out _ _ ⟨HJ.cell y1, HJ.cell y2⟩ ?_
            clear hK
            generalize World.alloc _ (.cells #[.slice none 0 0, .slice none 0 0, .slice none 0 0] 33) = Wx at HJ ⊢
            try simp only [Act.put, List.setIfInBounds_toArray, List.set_cons_zero, List.set_cons_succ]
            refine AnyT.some1 (i := 7) (by kernel_rfl) rfl (fun K hK => ?_) 
            · refine step_append_hasl (L := s.Entries.length) rfl (.tmp 10) (.tmp 12) elInt flat_int HJ.hb (Ty.up _ hd2 HJ.hg) rfl rfl rfl (Nat.zero_add _).symm (by omega) (by omega) ?_
              intro B2 d2 W2 S2 hon hH hS
              rw [List.nil_append] at hH
              have HJ := HJ.appB hon hH hS
              refine hK.out _ _ ⟨HJ.cell y1, HJ.cell y2⟩ ?_
              clear hK
              try simp only [Act.put, List.setIfInBounds_toArray, List.set_cons_zero, List.set_cons_succ]
              refine AnyT.take (i := 8) (cs := [10]) rfl (by kernel_rfl) (by kernel_rfl) (by kernel_rfl) (by kernel_rfl) rfl (by kernel_rfl) (fun _ _ _ h => h) ⟨HJ.cell y1, HJ.cell y2⟩ (by rfl) (by intro w hSw; (try dsimp only at hSw); go_simp; (try with_reducible rfl)) ?_
              try simp only [Act.put, List.setIfInBounds_toArray, List.set_cons_zero, List.set_cons_succ]
              obtain ⟨o0, o1, o2, of, ol⟩ := row3 HJ.ho
              refine AnyT.last (by kernel_rfl) rfl (by kernel_rfl) (fun K hK => ?_)
              go_simp
              refine hK.out _ _ ?_
              clear hK
              try simp only [Act.put, List.setIfInBounds_toArray, List.set_cons_zero, List.set_cons_succ]
              have h2 := set3 HJ.ho (.slice none 0 0) (.slice B1 s.Bases.length d1) (.slice B2 s.Entries.length d2)
              have HJ := HJ.store h2.2 h2.1 hgo
              go_wp2_with (fail)
              go_meet
              exact ⟨_, B1, B2, d1, d2, S1, S2, rfl, HJ, hgo⟩
        · go_simp
          have hgo := HJ.hg.size
          have HJ := HJ.allocO (cs := #[.slice none 0 0, .slice none 0 0, .slice none 0 0]) (t := 33)
          refine hK.out _ _ ⟨HJ.cell y1, HJ.cell y2⟩ ?_
          clear hK
          generalize World.alloc _ (.cells #[.slice none 0 0, .slice none 0 0, .slice none 0 0] 33) = Wx at HJ ⊢
          try simp only [Act.put, List.setIfInBounds_toArray, List.set_cons_zero, List.set_cons_succ]
          refine AnyT.some1 (i := 4) (by kernel_rfl) rfl (fun K hK => ?_) 
          · go_simp
            have HJ := HJ.allocB
            refine hK.out _ _ ⟨HJ.cell y1, HJ.cell y2⟩ ?_
            clear hK
            generalize World.alloc _ (.cells #[] 3) = Wx at HJ ⊢
            try simp only [Act.put, List.setIfInBounds_toArray, List.set_cons_zero, List.set_cons_succ]
            refine AnyT.some1 (i := 7) (by kernel_rfl) rfl (fun K hK => ?_) 
            · refine step_append_hasl (L := s.Entries.length) rfl (.tmp 10) (.tmp 12) elInt flat_int HJ.hb (Ty.up _ hd2 HJ.hg) rfl rfl rfl (Nat.zero_add _).symm (by omega) (by omega) ?_
              intro B2 d2 W2 S2 hon hH hS
              rw [List.nil_append] at hH
              have HJ := HJ.appB hon hH hS
              refine hK.out _ _ ⟨HJ.cell y1, HJ.cell y2⟩ ?_
              clear hK
              try simp only [Act.put, List.setIfInBounds_toArray, List.set_cons_zero, List.set_cons_succ]
              refine AnyT.take (i := 8) (cs := [10]) rfl (by kernel_rfl) (by kernel_rfl) (by kernel_rfl) (by kernel_rfl) rfl (by kernel_rfl) (fun _ _ _ h => h) ⟨HJ.cell y1, HJ.cell y2⟩ (by rfl) (by intro w hSw; (try dsimp only at hSw); go_simp; (try with_reducible rfl)) ?_
              try simp only [Act.put, List.setIfInBounds_toArray, List.set_cons_zero, List.set_cons_succ]
              obtain ⟨o0, o1, o2, of, ol⟩ := row3 HJ.ho
              refine AnyT.last (by kernel_rfl) rfl (by kernel_rfl) (fun K hK => ?_)
              go_simp
              refine hK.out _ _ ?_
              clear hK
              try simp only [Act.put, List.setIfInBounds_toArray, List.set_cons_zero, List.set_cons_succ]
              have h2 := set3 HJ.ho (.slice none 0 0) (.slice B1 s.Bases.length d1) (.slice B2 s.Entries.length d2)
              have HJ := HJ.store h2.2 h2.1 hgo
              go_wp2_with (fail)
              go_meet
              exact ⟨_, B1, B2, d1, d2, S1, S2, rfl, HJ, hgo⟩
      · go_simp
        have HJ := HJ.allocB
        refine hK.out _ _ ⟨HJ.cell y1, HJ.cell y2⟩ ?_
        clear hK
        generalize World.alloc _ (.cells #[] 3) = Wx at HJ ⊢
        try simp only [Act.put, List.setIfInBounds_toArray, List.set_cons_zero, List.set_cons_succ]
        refine AnyT.some2 (i := 3) (j := 9) (by kernel_rfl) rfl rfl (fun K hK => ?_) (fun K hK => ?_) 
        · refine step_append_hasl (L := s.Bases.length) rfl (.tmp 6) (.tmp 8) elInt flat_int HJ.ha (Ty.up _ hd1 HJ.hg) rfl rfl rfl (Nat.zero_add _).symm (by omega) (by omega) ?_
          intro B1 d1 W1 S1 hon hH hS
          rw [List.nil_append] at hH
          have HJ := HJ.appA hon hH hS
          refine hK.out _ _ ⟨HJ.cell y1, HJ.cell y2⟩ ?_
          clear hK
          try simp only [Act.put, List.setIfInBounds_toArray, List.set_cons_zero, List.set_cons_succ]
          refine AnyT.some2 (i := 7) (j := 9) (by kernel_rfl) rfl rfl (fun K hK => ?_) (fun K hK => ?_) 
          · refine step_append_hasl (L := s.Entries.length) rfl (.tmp 10) (.tmp 12) elInt flat_int HJ.hb (Ty.up _ hd2 HJ.hg) rfl rfl rfl (Nat.zero_add _).symm (by omega) (by omega) ?_
            intro B2 d2 W2 S2 hon hH hS
            rw [List.nil_append] at hH
            have HJ := HJ.appB hon hH hS
            refine hK.out _ _ ⟨HJ.cell y1, HJ.cell y2⟩ ?_
            clear hK
            try simp only [Act.put, List.setIfInBounds_toArray, List.set_cons_zero, List.set_cons_succ]
            refine AnyT.take (i := 8) (cs := [10]) rfl (by kernel_rfl) (by kernel_rfl) (by kernel_rfl) (by kernel_rfl) rfl (by kernel_rfl) (fun _ _ _ h => h) ⟨HJ.cell y1, HJ.cell y2⟩ (by rfl) (by intro w hSw; (try dsimp only at hSw); go_simp; (try with_reducible rfl)) ?_
            try simp only [Act.put, List.setIfInBounds_toArray, List.set_cons_zero, List.set_cons_succ]
            refine AnyT.some1 (i := 9) (by kernel_rfl) rfl (fun K hK => ?_) 
            · go_simp
              have hgo := HJ.hg.size
              have HJ := HJ.allocO (cs := #[.slice none 0 0, .slice none 0 0, .slice none 0 0]) (t := 33)
              refine hK.out _ _ ⟨HJ.cell y1, HJ.cell y2⟩ ?_
              clear hK
              generalize World.alloc _ (.cells #[.slice none 0 0, .slice none 0 0, .slice none 0 0] 33) = Wx at HJ ⊢
              try simp only [Act.put, List.setIfInBounds_toArray, List.set_cons_zero, List.set_cons_succ]
              obtain ⟨o0, o1, o2, of, ol⟩ := row3 HJ.ho
              refine AnyT.last (by kernel_rfl) rfl (by kernel_rfl) (fun K hK => ?_)
              go_simp
              refine hK.out _ _ ?_
              clear hK
              try simp only [Act.put, List.setIfInBounds_toArray, List.set_cons_zero, List.set_cons_succ]
              have h2 := set3 HJ.ho (.slice none 0 0) (.slice B1 s.Bases.length d1) (.slice B2 s.Entries.length d2)
              have HJ := HJ.store h2.2 h2.1 hgo
              go_wp2_with (fail)
              go_meet
              exact ⟨_, B1, B2, d1, d2, S1, S2, rfl, HJ, hgo⟩
          · go_simp
            have hgo := HJ.hg.size
            have HJ := HJ.allocO (cs := #[.slice none 0 0, .slice none 0 0, .slice none 0 0]) (t := 33)
            refine hK.out _ _ ⟨HJ.cell y1, HJ.cell y2⟩ ?_
            clear hK
            generalize World.alloc _ (.cells #[.slice none 0 0, .slice none 0 0, .slice none 0 0] 33) = Wx at HJ ⊢
            try simp only [Act.put, List.setIfInBounds_toArray, List.set_cons_zero, List.set_cons_succ]
            refine AnyT.some1 (i := 7) (by kernel_rfl) rfl (fun K hK => ?_) 
            · refine step_append_hasl (L := s.Entries.length) rfl (.tmp 10) (.tmp 12) elInt flat_int HJ.hb (Ty.up _ hd2 HJ.hg) rfl rfl rfl (Nat.zero_add _).symm (by omega) (by omega) ?_
              intro B2 d2 W2 S2 hon hH hS
              rw [List.nil_append] at hH
              have HJ := HJ.appB hon hH hS
              refine hK.out _ _ ⟨HJ.cell y1, HJ.cell y2⟩ ?_
              clear hK
              try simp only [Act.put, List.setIfInBounds_toArray, List.set_cons_zero, List.set_cons_succ]
              refine AnyT.take (i := 8) (cs := [10]) rfl (by kernel_rfl) (by kernel_rfl) (by kernel_rfl) (by kernel_rfl) rfl (by kernel_rfl) (fun _ _ _ h => h) ⟨HJ.cell y1, HJ.cell y2⟩ (by rfl) (by intro w hSw; (try dsimp only at hSw); go_simp; (try with_reducible rfl)) ?_
              try simp only [Act.put, List.setIfInBounds_toArray, List.set_cons_zero, List.set_cons_succ]
              obtain ⟨o0, o1, o2, of, ol⟩ := row3 HJ.ho
              refine AnyT.last (by kernel_rfl) rfl (by kernel_rfl) (fun K hK => ?_)
              go_simp
              refine hK.out _ _ ?_
              clear hK
              try simp only [Act.put, List.setIfInBounds_toArray, List.set_cons_zero, List.set_cons_succ]
              have h2 := set3 HJ.ho (.slice none 0 0) (.slice B1 s.Bases.length d1) (.slice B2 s.Entries.length d2)
              have HJ := HJ.store h2.2 h2.1 hgo
              go_wp2_with (fail)
              go_meet
              exact ⟨_, B1, B2, d1, d2, S1, S2, rfl, HJ, hgo⟩
        · go_simp
          have hgo := HJ.hg.size
          have HJ := HJ.allocO (cs := #[.slice none 0 0, .slice none 0 0, .slice none 0 0]) (t := 33)
          refine hK.out _ _ ⟨HJ.cell y1, HJ.cell y2⟩ ?_
          clear hK
          generalize World.alloc _ (.cells #[.slice none 0 0, .slice none 0 0, .slice none 0 0] 33) = Wx at HJ ⊢
          try simp only [Act.put, List.setIfInBounds_toArray, List.set_cons_zero, List.set_cons_succ]
          refine AnyT.some1 (i := 3) (by kernel_rfl) rfl (fun K hK => ?_) 
          · refine step_append_hasl (L := s.Bases.length) rfl (.tmp 6) (.tmp 8) elInt flat_int HJ.ha (Ty.up _ hd1 HJ.hg) rfl rfl rfl (Nat.zero_add _).symm (by omega) (by omega) ?_
            intro B1 d1 W1 S1 hon hH hS
            rw [List.nil_append] at hH
            have HJ := HJ.appA hon hH hS
            refine hK.out _ _ ⟨HJ.cell y1, HJ.cell y2⟩ ?_
            clear hK
            try simp only [Act.put, List.setIfInBounds_toArray, List.set_cons_zero, List.set_cons_succ]
            refine AnyT.some1 (i := 7) (by kernel_rfl) rfl (fun K hK => ?_) 
            · refine step_append_hasl (L := s.Entries.length) rfl (.tmp 10) (.tmp 12) elInt flat_int HJ.hb (Ty.up _ hd2 HJ.hg) rfl rfl rfl (Nat.zero_add _).symm (by omega) (by omega) ?_
              intro B2 d2 W2 S2 hon hH hS
              rw [List.nil_append] at hH
              have HJ := HJ.appB hon hH hS
              refine hK.out _ _ ⟨HJ.cell y1, HJ.cell y2⟩ ?_
              clear hK
              try simp only [Act.put, List.setIfInBounds_toArray, List.set_cons_zero, List.set_cons_succ]
              refine AnyT.take (i := 8) (cs := [10]) rfl (by kernel_rfl) (by kernel_rfl) (by kernel_rfl) (by kernel_rfl) rfl (by kernel_rfl) (fun _ _ _ h => h) ⟨HJ.cell y1, HJ.cell y2⟩ (by rfl) (by intro w hSw; (try dsimp only at hSw); go_simp; (try with_reducible rfl)) ?_
              try simp only [Act.put, List.setIfInBounds_toArray, List.set_cons_zero, List.set_cons_succ]
              obtain ⟨o0, o1, o2, of, ol⟩ := row3 HJ.ho
              refine AnyT.last (by kernel_rfl) rfl (by kernel_rfl) (fun K hK => ?_)
              go_simp
              refine hK.out _ _ ?_
              clear hK
              try simp only [Act.put, List.setIfInBounds_toArray, List.set_cons_zero, List.set_cons_succ]
              have h2 := set3 HJ.ho (.slice none 0 0) (.slice B1 s.Bases.length d1) (.slice B2 s.Entries.length d2)
              have HJ := HJ.store h2.2 h2.1 hgo
              go_wp2_with (fail)
              go_meet
              exact ⟨_, B1, B2, d1, d2, S1, S2, rfl, HJ, hgo⟩
      · go_simp
        have hgo := HJ.hg.size
        have HJ := HJ.allocO (cs := #[.slice none 0 0, .slice none 0 0, .slice none 0 0]) (t := 33)
        refine hK.out _ _ ⟨HJ.cell y1, HJ.cell y2⟩ ?_
        clear hK
        generalize World.alloc _ (.cells #[.slice none 0 0, .slice none 0 0, .slice none 0 0] 33) = Wx at HJ ⊢
        try simp only [Act.put, List.setIfInBounds_toArray, List.set_cons_zero, List.set_cons_succ]
        refine AnyT.some2 (i := 3) (j := 4) (by kernel_rfl) rfl rfl (fun K hK => ?_) (fun K hK => ?_) 
        · refine step_append_hasl (L := s.Bases.length) rfl (.tmp 6) (.tmp 8) elInt flat_int HJ.ha (Ty.up _ hd1 HJ.hg) rfl rfl rfl (Nat.zero_add _).symm (by omega) (by omega) ?_
          intro B1 d1 W1 S1 hon hH hS
          rw [List.nil_append] at hH
          have HJ := HJ.appA hon hH hS
          refine hK.out _ _ ⟨HJ.cell y1, HJ.cell y2⟩ ?_
          clear hK
          try simp only [Act.put, List.setIfInBounds_toArray, List.set_cons_zero, List.set_cons_succ]
          refine AnyT.some1 (i := 4) (by kernel_rfl) rfl (fun K hK => ?_) 
          · go_simp
            have HJ := HJ.allocB
            refine hK.out _ _ ⟨HJ.cell y1, HJ.cell y2⟩ ?_
            clear hK
            generalize World.alloc _ (.cells #[] 3) = Wx at HJ ⊢
            try simp only [Act.put, List.setIfInBounds_toArray, List.set_cons_zero, List.set_cons_succ]
            refine AnyT.some1 (i := 7) (by kernel_rfl) rfl (fun K hK => ?_) 
            · refine step_append_hasl (L := s.Entries.length) rfl (.tmp 10) (.tmp 12) elInt flat_int HJ.hb (Ty.up _ hd2 HJ.hg) rfl rfl rfl (Nat.zero_add _).symm (by omega) (by omega) ?_
              intro B2 d2 W2 S2 hon hH hS
              rw [List.nil_append] at hH
              have HJ := HJ.appB hon hH hS
              refine hK.out _ _ ⟨HJ.cell y1, HJ.cell y2⟩ ?_
              clear hK
              try simp only [Act.put, List.setIfInBounds_toArray, List.set_cons_zero, List.set_cons_succ]
              refine AnyT.take (i := 8) (cs := [10]) rfl (by kernel_rfl) (by kernel_rfl) (by kernel_rfl) (by kernel_rfl) rfl (by kernel_rfl) (fun _ _ _ h => h) ⟨HJ.cell y1, HJ.cell y2⟩ (by rfl) (by intro w hSw; (try dsimp only at hSw); go_simp; (try with_reducible rfl)) ?_
              try simp only [Act.put, List.setIfInBounds_toArray, List.set_cons_zero, List.set_cons_succ]
              obtain ⟨o0, o1, o2, of, ol⟩ := row3 HJ.ho
              refine AnyT.last (by kernel_rfl) rfl (by kernel_rfl) (fun K hK => ?_)
              go_simp
              refine hK.out _ _ ?_
              clear hK
              try simp only [Act.put, List.setIfInBounds_toArray, List.set_cons_zero, List.set_cons_succ]
              have h2 := set3 HJ.ho (.slice none 0 0) (.slice B1 s.Bases.length d1) (.slice B2 s.Entries.length d2)
              have HJ := HJ.store h2.2 h2.1 hgo
              go_wp2_with (fail)
              go_meet
              exact ⟨_, B1, B2, d1, d2, S1, S2, rfl, HJ, hgo⟩
        · go_simp
          have HJ := HJ.allocB
          refine hK.out _ _ ⟨HJ.cell y1, HJ.cell y2⟩ ?_
          clear hK
          generalize World.alloc _ (.cells #[] 3) = Wx at HJ ⊢
          try simp only [Act.put, List.setIfInBounds_toArray, List.set_cons_zero, List.set_cons_succ]
          refine AnyT.some1 (i := 3) (by kernel_rfl) rfl (fun K hK => ?_) 
          · refine step_append_hasl (L := s.Bases.length) rfl (.tmp 6) (.tmp 8) elInt flat_int HJ.ha (Ty.up _ hd1 HJ.hg) rfl rfl rfl (Nat.zero_add _).symm (by omega) (by omega) ?_
            intro B1 d1 W1 S1 hon hH hS
            rw [List.nil_append] at hH
            have HJ := HJ.appA hon hH hS
            refine hK.out _ _ ⟨HJ.cell y1, HJ.cell y2⟩ ?_
            clear hK
            try simp only [Act.put, List.setIfInBounds_toArray, List.set_cons_zero, List.set_cons_succ]
            refine AnyT.some1 (i := 7) (by kernel_rfl) rfl (fun K hK => ?_) 
            · refine step_append_hasl (L := s.Entries.length) rfl (.tmp 10) (.tmp 12) elInt flat_int HJ.hb (Ty.up _ hd2 HJ.hg) rfl rfl rfl (Nat.zero_add _).symm (by omega) (by omega) ?_
              intro B2 d2 W2 S2 hon hH hS
              rw [List.nil_append] at hH
              have HJ := HJ.appB hon hH hS
              refine hK.out _ _ ⟨HJ.cell y1, HJ.cell y2⟩ ?_
              clear hK
              try simp only [Act.put, List.setIfInBounds_toArray, List.set_cons_zero, List.set_cons_succ]
              refine AnyT.take (i := 8) (cs := [10]) rfl (by kernel_rfl) (by kernel_rfl) (by kernel_rfl) (by kernel_rfl) rfl (by kernel_rfl) (fun _ _ _ h => h) ⟨HJ.cell y1, HJ.cell y2⟩ (by rfl) (by intro w hSw; (try dsimp only at hSw); go_simp; (try with_reducible rfl)) ?_
              try simp only [Act.put, List.setIfInBounds_toArray, List.set_cons_zero, List.set_cons_succ]
              obtain ⟨o0, o1, o2, of, ol⟩ := row3 HJ.ho
              refine AnyT.last (by kernel_rfl) rfl (by kernel_rfl) (fun K hK => ?_)
              go_simp
              refine hK.out _ _ ?_
              clear hK
              try simp only [Act.put, List.setIfInBounds_toArray, List.set_cons_zero, List.set_cons_succ]
              have h2 := set3 HJ.ho (.slice none 0 0) (.slice B1 s.Bases.length d1) (.slice B2 s.Entries.length d2)
              have HJ := HJ.store h2.2 h2.1 hgo
              go_wp2_with (fail)
              go_meet
              exact ⟨_, B1, B2, d1, d2, S1, S2, rfl, HJ, hgo⟩
    · go_simp
      have HJ := HJ.allocB
      refine hK.out _ _ ⟨HJ.cell y1, HJ.cell y2⟩ ?_
      clear hK
      generalize World.alloc _ (.cells #[] 3) = Wx at HJ ⊢
      try simp only [Act.put, List.setIfInBounds_toArray, List.set_cons_zero, List.set_cons_succ]
      refine AnyT.some2 (i := 0) (j := 9) (by kernel_rfl) rfl rfl (fun K hK => ?_) (fun K hK => ?_) 
      · go_simp
        have HJ := HJ.allocA
        refine hK.out _ _ ⟨HJ.cell y1, HJ.cell y2⟩ ?_
        clear hK
        generalize World.alloc _ (.cells #[] 3) = Wx at HJ ⊢
        try simp only [Act.put, List.setIfInBounds_toArray, List.set_cons_zero, List.set_cons_succ]
        refine AnyT.some2 (i := 3) (j := 9) (by kernel_rfl) rfl rfl (fun K hK => ?_) (fun K hK => ?_) 
        · refine step_append_hasl (L := s.Bases.length) rfl (.tmp 6) (.tmp 8) elInt flat_int HJ.ha (Ty.up _ hd1 HJ.hg) rfl rfl rfl (Nat.zero_add _).symm (by omega) (by omega) ?_
          intro B1 d1 W1 S1 hon hH hS
          rw [List.nil_append] at hH
          have HJ := HJ.appA hon hH hS
          refine hK.out _ _ ⟨HJ.cell y1, HJ.cell y2⟩ ?_
          clear hK
          try simp only [Act.put, List.setIfInBounds_toArray, List.set_cons_zero, List.set_cons_succ]
          refine AnyT.some2 (i := 7) (j := 9) (by kernel_rfl) rfl rfl (fun K hK => ?_) (fun K hK => ?_) 
          · refine step_append_hasl (L := s.Entries.length) rfl (.tmp 10) (.tmp 12) elInt flat_int HJ.hb (Ty.up _ hd2 HJ.hg) rfl rfl rfl (Nat.zero_add _).symm (by omega) (by omega) ?_
            intro B2 d2 W2 S2 hon hH hS
            rw [List.nil_append] at hH
            have HJ := HJ.appB hon hH hS
            refine hK.out _ _ ⟨HJ.cell y1, HJ.cell y2⟩ ?_
            clear hK
            try simp only [Act.put, List.setIfInBounds_toArray, List.set_cons_zero, List.set_cons_succ]
            refine AnyT.take (i := 8) (cs := [10]) rfl (by kernel_rfl) (by kernel_rfl) (by kernel_rfl) (by kernel_rfl) rfl (by kernel_rfl) (fun _ _ _ h => h) ⟨HJ.cell y1, HJ.cell y2⟩ (by rfl) (by intro w hSw; (try dsimp only at hSw); go_simp; (try with_reducible rfl)) ?_
            try simp only [Act.put, List.setIfInBounds_toArray, List.set_cons_zero, List.set_cons_succ]
            refine AnyT.some1 (i := 9) (by kernel_rfl) rfl (fun K hK => ?_) 
            · go_simp
              have hgo := HJ.hg.size
              have HJ := HJ.allocO (cs := #[.slice none 0 0, .slice none 0 0, .slice none 0 0]) (t := 33)
              refine hK.out _ _ ⟨HJ.cell y1, HJ.cell y2⟩ ?_
              clear hK
              generalize World.alloc _ (.cells #[.slice none 0 0, .slice none 0 0, .slice none 0 0] 33) = Wx at HJ ⊢
              try simp only [Act.put, List.setIfInBounds_toArray, List.set_cons_zero, List.set_cons_succ]
              obtain ⟨o0, o1, o2, of, ol⟩ := row3 HJ.ho
              refine AnyT.last (by kernel_rfl) rfl (by kernel_rfl) (fun K hK => ?_)
              go_simp
              refine hK.out _ _ ?_
              clear hK
              try simp only [Act.put, List.setIfInBounds_toArray, List.set_cons_zero, List.set_cons_succ]
              have h2 := set3 HJ.ho (.slice none 0 0) (.slice B1 s.Bases.length d1) (.slice B2 s.Entries.length d2)
              have HJ := HJ.store h2.2 h2.1 hgo
              go_wp2_with (fail)
              go_meet
              exact ⟨_, B1, B2, d1, d2, S1, S2, rfl, HJ, hgo⟩
          · go_simp
            have hgo := HJ.hg.size
            have HJ := HJ.allocO (cs := #[.slice none 0 0, .slice none 0 0, .slice none 0 0]) (t := 33)
            refine hK.out _ _ ⟨HJ.cell y1, HJ.cell y2⟩ ?_
            clear hK
            generalize World.alloc _ (.cells #[.slice none 0 0, .slice none 0 0, .slice none 0 0] 33) = Wx at HJ ⊢
            try simp only [Act.put, List.setIfInBounds_toArray, List.set_cons_zero, List.set_cons_succ]
            refine AnyT.some1 (i := 7) (by kernel_rfl) rfl (fun K hK => ?_) 
            · refine step_append_hasl (L := s.Entries.length) rfl (.tmp 10) (.tmp 12) elInt flat_int HJ.hb (Ty.up _ hd2 HJ.hg) rfl rfl rfl (Nat.zero_add _).symm (by omega) (by omega) ?_
              intro B2 d2 W2 S2 hon hH hS
              rw [List.nil_append] at hH
              have HJ := HJ.appB hon hH hS
              refine hK.out _ _ ⟨HJ.cell y1, HJ.cell y2⟩ ?_
              clear hK
              try simp only [Act.put, List.setIfInBounds_toArray, List.set_cons_zero, List.set_cons_succ]
              refine AnyT.take (i := 8) (cs := [10]) rfl (by kernel_rfl) (by kernel_rfl) (by kernel_rfl) (by kernel_rfl) rfl (by kernel_rfl) (fun _ _ _ h => h) ⟨HJ.cell y1, HJ.cell y2⟩ (by rfl) (by intro w hSw; (try dsimp only at hSw); go_simp; (try with_reducible rfl)) ?_
              try simp only [Act.put, List.setIfInBounds_toArray, List.set_cons_zero, List.set_cons_succ]
              obtain ⟨o0, o1, o2, of, ol⟩ := row3 HJ.ho
              refine AnyT.last (by kernel_rfl) rfl (by kernel_rfl) (fun K hK => ?_)
              go_simp
              refine hK.out _ _ ?_
              clear hK
              try simp only [Act.put, List.setIfInBounds_toArray, List.set_cons_zero, List.set_cons_succ]
              have h2 := set3 HJ.ho (.slice none 0 0) (.slice B1 s.Bases.length d1) (.slice B2 s.Entries.length d2)
              have HJ := HJ.store h2.2 h2.1 hgo
              go_wp2_with (fail)
              go_meet
              exact ⟨_, B1, B2, d1, d2, S1, S2, rfl, HJ, hgo⟩
        · go_simp
          have hgo := HJ.hg.size
          have HJ := HJ.allocO (cs := #[.slice none 0 0, .slice none 0 0, .slice none 0 0]) (t := 33)
          refine hK.out _ _ ⟨HJ.cell y1, HJ.cell y2⟩ ?_
          clear hK
          generalize World.alloc _ (.cells #[.slice none 0 0, .slice none 0 0, .slice none 0 0] 33) = Wx at HJ ⊢
          try simp only [Act.put, List.setIfInBounds_toArray, List.set_cons_zero, List.set_cons_succ]
          refine AnyT.some1 (i := 3) (by kernel_rfl) rfl (fun K hK => ?_) 
          · refine step_append_hasl (L := s.Bases.length) rfl (.tmp 6) (.tmp 8) elInt flat_int HJ.ha (Ty.up _ hd1 HJ.hg) rfl rfl rfl (Nat.zero_add _).symm (by omega) (by omega) ?_
            intro B1 d1 W1 S1 hon hH hS
            rw [List.nil_append] at hH
            have HJ := HJ.appA hon hH hS
            refine hK.out _ _ ⟨HJ.cell y1, HJ.cell y2⟩ ?_
            clear hK
            try simp only [Act.put, List.setIfInBounds_toArray, List.set_cons_zero, List.set_cons_succ]
            refine AnyT.some1 (i := 7) (by kernel_rfl) rfl (fun K hK => ?_) 
            · refine step_append_hasl (L := s.Entries.length) rfl (.tmp 10) (.tmp 12) elInt flat_int HJ.hb (Ty.up _ hd2 HJ.hg) rfl rfl rfl (Nat.zero_add _).symm (by omega) (by omega) ?_
              intro B2 d2 W2 S2 hon hH hS
              rw [List.nil_append] at hH
              have HJ := HJ.appB hon hH hS
              refine hK.out _ _ ⟨HJ.cell y1, HJ.cell y2⟩ ?_
              clear hK
              try simp only [Act.put, List.setIfInBounds_toArray, List.set_cons_zero, List.set_cons_succ]
              refine AnyT.take (i := 8) (cs := [10]) rfl (by kernel_rfl) (by kernel_rfl) (by kernel_rfl) (by kernel_rfl) rfl (by kernel_rfl) (fun _ _ _ h => h) ⟨HJ.cell y1, HJ.cell y2⟩ (by rfl) (by intro w hSw; (try dsimp only at hSw); go_simp; (try with_reducible rfl)) ?_
              try simp only [Act.put, List.setIfInBounds_toArray, List.set_cons_zero, List.set_cons_succ]
              obtain ⟨o0, o1, o2, of, ol⟩ := row3 HJ.ho
              refine AnyT.last (by kernel_rfl) rfl (by kernel_rfl) (fun K hK => ?_)
              go_simp
              refine hK.out _ _ ?_
              clear hK
              try simp only [Act.put, List.setIfInBounds_toArray, List.set_cons_zero, List.set_cons_succ]
              have h2 := set3 HJ.ho (.slice none 0 0) (.slice B1 s.Bases.length d1) (.slice B2 s.Entries.length d2)
              have HJ := HJ.store h2.2 h2.1 hgo
              go_wp2_with (fail)
              go_meet
              exact ⟨_, B1, B2, d1, d2, S1, S2, rfl, HJ, hgo⟩
      · go_simp
        have hgo := HJ.hg.size
        have HJ := HJ.allocO (cs := #[.slice none 0 0, .slice none 0 0, .slice none 0 0]) (t := 33)
        refine hK.out _ _ ⟨HJ.cell y1, HJ.cell y2⟩ ?_
        clear hK
        generalize World.alloc _ (.cells #[.slice none 0 0, .slice none 0 0, .slice none 0 0] 33) = Wx at HJ ⊢
        try simp only [Act.put, List.setIfInBounds_toArray, List.set_cons_zero, List.set_cons_succ]
        refine AnyT.some1 (i := 0) (by kernel_rfl) rfl (fun K hK => ?_) 
        · go_simp
          have HJ := HJ.allocA
          refine hK.out _ _ ⟨HJ.cell y1, HJ.cell y2⟩ ?_
          clear hK
          generalize World.alloc _ (.cells #[] 3) = Wx at HJ ⊢
          try simp only [Act.put, List.setIfInBounds_toArray, List.set_cons_zero, List.set_cons_succ]
          refine AnyT.some1 (i := 3) (by kernel_rfl) rfl (fun K hK => ?_) 
          · refine step_append_hasl (L := s.Bases.length) rfl (.tmp 6) (.tmp 8) elInt flat_int HJ.ha (Ty.up _ hd1 HJ.hg) rfl rfl rfl (Nat.zero_add _).symm (by omega) (by omega) ?_
            intro B1 d1 W1 S1 hon hH hS
            rw [List.nil_append] at hH
            have HJ := HJ.appA hon hH hS
            refine hK.out _ _ ⟨HJ.cell y1, HJ.cell y2⟩ ?_
            clear hK
            try simp only [Act.put, List.setIfInBounds_toArray, List.set_cons_zero, List.set_cons_succ]
            refine AnyT.some1 (i := 7) (by kernel_rfl) rfl (fun K hK => ?_) 
            · refine step_append_hasl (L := s.Entries.length) rfl (.tmp 10) (.tmp 12) elInt flat_int HJ.hb (Ty.up _ hd2 HJ.hg) rfl rfl rfl (Nat.zero_add _).symm (by omega) (by omega) ?_
              intro B2 d2 W2 S2 hon hH hS
              rw [List.nil_append] at hH
              have HJ := HJ.appB hon hH hS
              refine hK.out _ _ ⟨HJ.cell y1, HJ.cell y2⟩ ?_
              clear hK
              try simp only [Act.put, List.setIfInBounds_toArray, List.set_cons_zero, List.set_cons_succ]
              refine AnyT.take (i := 8) (cs := [10]) rfl (by kernel_rfl) (by kernel_rfl) (by kernel_rfl) (by kernel_rfl) rfl (by kernel_rfl) (fun _ _ _ h => h) ⟨HJ.cell y1, HJ.cell y2⟩ (by rfl) (by intro w hSw; (try dsimp only at hSw); go_simp; (try with_reducible rfl)) ?_
              try simp only [Act.put, List.setIfInBounds_toArray, List.set_cons_zero, List.set_cons_succ]
              obtain ⟨o0, o1, o2, of, ol⟩ := row3 HJ.ho
              refine AnyT.last (by kernel_rfl) rfl (by kernel_rfl) (fun K hK => ?_)
              go_simp
              refine hK.out _ _ ?_
              clear hK
              try simp only [Act.put, List.setIfInBounds_toArray, List.set_cons_zero, List.set_cons_succ]
              have h2 := set3 HJ.ho (.slice none 0 0) (.slice B1 s.Bases.length d1) (.slice B2 s.Entries.length d2)
              have HJ := HJ.store h2.2 h2.1 hgo
              go_wp2_with (fail)
              go_meet
              exact ⟨_, B1, B2, d1, d2, S1, S2, rfl, HJ, hgo⟩
    · go_simp
      have hgo := HJ.hg.size
      have HJ := HJ.allocO (cs := #[.slice none 0 0, .slice none 0 0, .slice none 0 0]) (t := 33)
      refine hK.out _ _ ⟨HJ.cell y1, HJ.cell y2⟩ ?_
      clear hK
      generalize World.alloc _ (.cells #[.slice none 0 0, .slice none 0 0, .slice none 0 0] 33) = Wx at HJ ⊢
      try simp only [Act.put, List.setIfInBounds_toArray, List.set_cons_zero, List.set_cons_succ]
      refine AnyT.some2 (i := 0) (j := 4) (by kernel_rfl) rfl rfl (fun K hK => ?_) (fun K hK => ?_) 
      · go_simp
        have HJ := HJ.allocA
        refine hK.out _ _ ⟨HJ.cell y1, HJ.cell y2⟩ ?_
        clear hK
        generalize World.alloc _ (.cells #[] 3) = Wx at HJ ⊢
        try simp only [Act.put, List.setIfInBounds_toArray, List.set_cons_zero, List.set_cons_succ]
        refine AnyT.some2 (i := 3) (j := 4) (by kernel_rfl) rfl rfl (fun K hK => ?_) (fun K hK => ?_) 
        · refine step_append_hasl (L := s.Bases.length) rfl (.tmp 6) (.tmp 8) elInt flat_int HJ.ha (Ty.up _ hd1 HJ.hg) rfl rfl rfl (Nat.zero_add _).symm (by omega) (by omega) ?_
          intro B1 d1 W1 S1 hon hH hS
          rw [List.nil_append] at hH
          have HJ := HJ.appA hon hH hS
          refine hK.out _ _ ⟨HJ.cell y1, HJ.cell y2⟩ ?_
          clear hK
          try simp only [Act.put, List.setIfInBounds_toArray, List.set_cons_zero, List.set_cons_succ]
          refine AnyT.some1 (i := 4) (by kernel_rfl) rfl (fun K hK => ?_) 
          · go_simp
            have HJ := HJ.allocB
            refine hK.out _ _ ⟨HJ.cell y1, HJ.cell y2⟩ ?_
            clear hK
            generalize World.alloc _ (.cells #[] 3) = Wx at HJ ⊢
            try simp only [Act.put, List.setIfInBounds_toArray, List.set_cons_zero, List.set_cons_succ]
            refine AnyT.some1 (i := 7) (by kernel_rfl) rfl (fun K hK => ?_) 
            · refine step_append_hasl (L := s.Entries.length) rfl (.tmp 10) (.tmp 12) elInt flat_int HJ.hb (Ty.up _ hd2 HJ.hg) rfl rfl rfl (Nat.zero_add _).symm (by omega) (by omega) ?_
              intro B2 d2 W2 S2 hon hH hS
              rw [List.nil_append] at hH
              have HJ := HJ.appB hon hH hS
              refine hK.out _ _ ⟨HJ.cell y1, HJ.cell y2⟩ ?_
              clear hK
              try simp only [Act.put, List.setIfInBounds_toArray, List.set_cons_zero, List.set_cons_succ]
              refine AnyT.take (i := 8) (cs := [10]) rfl (by kernel_rfl) (by kernel_rfl) (by kernel_rfl) (by kernel_rfl) rfl (by kernel_rfl) (fun _ _ _ h => h) ⟨HJ.cell y1, HJ.cell y2⟩ (by rfl) (by intro w hSw; (try dsimp only at hSw); go_simp; (try with_reducible rfl)) ?_
              try simp only [Act.put, List.setIfInBounds_toArray, List.set_cons_zero, List.set_cons_succ]
              obtain ⟨o0, o1, o2, of, ol⟩ := row3 HJ.ho
              refine AnyT.last (by kernel_rfl) rfl (by kernel_rfl) (fun K hK => ?_)
              go_simp
              refine hK.out _ _ ?_
              clear hK
              try simp only [Act.put, List.setIfInBounds_toArray, List.set_cons_zero, List.set_cons_succ]
              have h2 := set3 HJ.ho (.slice none 0 0) (.slice B1 s.Bases.length d1) (.slice B2 s.Entries.length d2)
              have HJ := HJ.store h2.2 h2.1 hgo
              go_wp2_with (fail)
              go_meet
              exact ⟨_, B1, B2, d1, d2, S1, S2, rfl, HJ, hgo⟩
        · go_simp
          have HJ := HJ.allocB
          refine hK.out _ _ ⟨HJ.cell y1, HJ.cell y2⟩ ?_
          clear hK
          generalize World.alloc _ (.cells #[] 3) = Wx at HJ ⊢
          try simp only [Act.put, List.setIfInBounds_toArray, List.set_cons_zero, List.set_cons_succ]
          refine AnyT.some1 (i := 3) (by kernel_rfl) rfl (fun K hK => ?_) 
          · refine step_append_hasl (L := s.Bases.length) rfl (.tmp 6) (.tmp 8) elInt flat_int HJ.ha (Ty.up _ hd1 HJ.hg) rfl rfl rfl (Nat.zero_add _).symm (by omega) (by omega) ?_
            intro B1 d1 W1 S1 hon hH hS
            rw [List.nil_append] at hH
            have HJ := HJ.appA hon hH hS
            refine hK.out _ _ ⟨HJ.cell y1, HJ.cell y2⟩ ?_
            clear hK
            try simp only [Act.put, List.setIfInBounds_toArray, List.set_cons_zero, List.set_cons_succ]
            refine AnyT.some1 (i := 7) (by kernel_rfl) rfl (fun K hK => ?_) 
            · refine step_append_hasl (L := s.Entries.length) rfl (.tmp 10) (.tmp 12) elInt flat_int HJ.hb (Ty.up _ hd2 HJ.hg) rfl rfl rfl (Nat.zero_add _).symm (by omega) (by omega) ?_
              intro B2 d2 W2 S2 hon hH hS
              rw [List.nil_append] at hH
              have HJ := HJ.appB hon hH hS
              refine hK.out _ _ ⟨HJ.cell y1, HJ.cell y2⟩ ?_
              clear hK
              try simp only [Act.put, List.setIfInBounds_toArray, List.set_cons_zero, List.set_cons_succ]
              refine AnyT.take (i := 8) (cs := [10]) rfl (by kernel_rfl) (by kernel_rfl) (by kernel_rfl) (by kernel_rfl) rfl (by kernel_rfl) (fun _ _ _ h => h) ⟨HJ.cell y1, HJ.cell y2⟩ (by rfl) (by intro w hSw; (try dsimp only at hSw); go_simp; (try with_reducible rfl)) ?_
              try simp only [Act.put, List.setIfInBounds_toArray, List.set_cons_zero, List.set_cons_succ]
              obtain ⟨o0, o1, o2, of, ol⟩ := row3 HJ.ho
              refine AnyT.last (by kernel_rfl) rfl (by kernel_rfl) (fun K hK => ?_)
              go_simp
              refine hK.out _ _ ?_
              clear hK
              try simp only [Act.put, List.setIfInBounds_toArray, List.set_cons_zero, List.set_cons_succ]
              have h2 := set3 HJ.ho (.slice none 0 0) (.slice B1 s.Bases.length d1) (.slice B2 s.Entries.length d2)
              have HJ := HJ.store h2.2 h2.1 hgo
              go_wp2_with (fail)
              go_meet
              exact ⟨_, B1, B2, d1, d2, S1, S2, rfl, HJ, hgo⟩
      · go_simp
        have HJ := HJ.allocB
        refine hK.out _ _ ⟨HJ.cell y1, HJ.cell y2⟩ ?_
        clear hK
        generalize World.alloc _ (.cells #[] 3) = Wx at HJ ⊢
        try simp only [Act.put, List.setIfInBounds_toArray, List.set_cons_zero, List.set_cons_succ]
        refine AnyT.some1 (i := 0) (by kernel_rfl) rfl (fun K hK => ?_) 
        · go_simp
          have HJ := HJ.allocA
          refine hK.out _ _ ⟨HJ.cell y1, HJ.cell y2⟩ ?_
          clear hK
          generalize World.alloc _ (.cells #[] 3) = Wx at HJ ⊢
          try simp only [Act.put, List.setIfInBounds_toArray, List.set_cons_zero, List.set_cons_succ]
          refine AnyT.some1 (i := 3) (by kernel_rfl) rfl (fun K hK => ?_) 
          · refine step_append_hasl (L := s.Bases.length) rfl (.tmp 6) (.tmp 8) elInt flat_int HJ.ha (Ty.up _ hd1 HJ.hg) rfl rfl rfl (Nat.zero_add _).symm (by omega) (by omega) ?_
            intro B1 d1 W1 S1 hon hH hS
            rw [List.nil_append] at hH
            have HJ := HJ.appA hon hH hS
            refine hK.out _ _ ⟨HJ.cell y1, HJ.cell y2⟩ ?_
            clear hK
            try simp only [Act.put, List.setIfInBounds_toArray, List.set_cons_zero, List.set_cons_succ]
            refine AnyT.some1 (i := 7) (by kernel_rfl) rfl (fun K hK => ?_) 
            · refine step_append_hasl (L := s.Entries.length) rfl (.tmp 10) (.tmp 12) elInt flat_int HJ.hb (Ty.up _ hd2 HJ.hg) rfl rfl rfl (Nat.zero_add _).symm (by omega) (by omega) ?_
              intro B2 d2 W2 S2 hon hH hS
              rw [List.nil_append] at hH
              have HJ := HJ.appB hon hH hS
              refine hK.out _ _ ⟨HJ.cell y1, HJ.cell y2⟩ ?_
              clear hK
              try simp only [Act.put, List.setIfInBounds_toArray, List.set_cons_zero, List.set_cons_succ]
              refine AnyT.take (i := 8) (cs := [10]) rfl (by kernel_rfl) (by kernel_rfl) (by kernel_rfl) (by kernel_rfl) rfl (by kernel_rfl) (fun _ _ _ h => h) ⟨HJ.cell y1, HJ.cell y2⟩ (by rfl) (by intro w hSw; (try dsimp only at hSw); go_simp; (try with_reducible rfl)) ?_
              try simp only [Act.put, List.setIfInBounds_toArray, List.set_cons_zero, List.set_cons_succ]
              obtain ⟨o0, o1, o2, of, ol⟩ := row3 HJ.ho
              refine AnyT.last (by kernel_rfl) rfl (by kernel_rfl) (fun K hK => ?_)
              go_simp
              refine hK.out _ _ ?_
              clear hK
              try simp only [Act.put, List.setIfInBounds_toArray, List.set_cons_zero, List.set_cons_succ]
              have h2 := set3 HJ.ho (.slice none 0 0) (.slice B1 s.Bases.length d1) (.slice B2 s.Entries.length d2)
              have HJ := HJ.store h2.2 h2.1 hgo
              go_wp2_with (fail)
              go_meet
              exact ⟨_, B1, B2, d1, d2, S1, S2, rfl, HJ, hgo⟩
  case rest =>
    obtain ⟨g3, B1, B2, d1, d2, S1, S2, rfl, HJ, hgo⟩ := hcut
    have hgg3 : g ≠ g3 := by omega
    have hl3 := (Array.getElem?_eq_some_iff.1 HJ.ho).1
    have hlI : s.Images.length ≤ 1099511627776 := by unfold szSpace szL at hs; omega
    have c0w := HJ.cell y0
    go_wp2_with (fail)
    go_loopw [18] (fun z wr => ∃ (j : Nat) (A : Option Addr) (c : Nat) (S : List Nat), z = .int .i64 j ∧ j ≤ s.Images.length ∧ Hid (OnlyS [g3] wc wr) ∧ Hid (wr.heap[g3]? = some (.cells #[.slice A j c, .slice B1 s.Bases.length d1, .slice B2 s.Entries.length d2] 33 (0, 0))) ∧ Hid (Has (tImage.sl 103) wr [.slice A j c] (s.Images.take j) S) ∧ Hid (∀ b ∈ S, wc.heap.size ≤ b)) (fun z _ => s.Images.length - (intOf z).toNat)
    case atStart => exact ⟨0, none, 0, [], rfl, Nat.zero_le _, Lib.hid (OnlyS.refl _ _), Lib.hid HJ.ho, Lib.hid (Has.nil _ _ _), Lib.hid (by simp)⟩
    case round =>
      obtain ⟨j, A, c, S, rfl, hj, ho, hb, hH, hS⟩ := hrel
      have hGr : Gro Y wr := ho.out.gro HJ.hg (fun b hb => by simp at hb; omega)
      have hwl : wc.heap.size ≤ wr.heap.size := ho.out.size
      have k0 := gcell hGr y0
      obtain ⟨o0, o1, o2, of, ol⟩ := row3 hb.out
      obtain ⟨z0, z1, z2, zf, zl2⟩ := row3 (grow_blk er hGr)
      by_cases hlt : j < s.Images.length
      · have hdw := hd0
        obtain ⟨gI, off, x, Ax, cx, rfl, hgI, hxk, m0, m1, p0, hsy⟩ := atImage hdw hlt
        have n0 := gcell hGr m0
        have n1 := gcell hGr m1
        have hsy2 := Ty.up _ hsy hGr
        have hki : (j : Int) < (s.Images.length : Int) := by omega
        have hxl : x.Symbols.length ≤ 1099511627776 := by have h2 : x.Symbols.length ≤ szImage x := (by unfold szImage szL; omega); have h1 := szL_elem szImage hxk; unfold szSpace at hs; omega
        have hgI3 : gI ≠ g3 := by omega
        go_upto_region 5 with (fail)
        have hGV : Gro wr (wr.alloc (.cells #[.string x.Code, .slice Ax x.Symbols.length cx] 103)) := (by repeat (first | with_reducible exact Gro.refl _ | with_reducible exact Gro.refl_drew _ _ _ | with_reducible exact Gro.refl_drewN _ _ _ _ | assumption | with_reducible apply Gro.more | with_reducible apply Gro.alloc | with_reducible apply Gro.drew | with_reducible apply Gro.drewN))
        have eV : (wr.alloc (.cells #[.string x.Code, .slice Ax x.Symbols.length cx] 103)).heap[wr.heap.size]? = some (.cells #[.string x.Code, .slice Ax x.Symbols.length cx] 103 (0, 0)) := heap_alloc_new _ _
        obtain ⟨b5, hb5⟩ : ∃ b5, wr.heap.size = b5 := ⟨_, rfl⟩
        rw [hb5] at eV ⊢
        generalize wr.alloc (.cells #[.string x.Code, .slice Ax x.Symbols.length cx] 103) = V at hGV eV ⊢
        have hbV := grow_blk hb.out hGV
        have hHV := hH.out.gro hGV
        have hsyV := Ty.up _ hsy2 hGV
        obtain ⟨v0, v1, _, _, vl⟩ := box2 eV
        clear o0 o1 o2 of ol
        obtain ⟨o0, o1, o2, of, ol⟩ := row3 hbV
        have hVg3 : g3 ≠ V.heap.size := by omega
        have hVb5 : b5 ≠ V.heap.size := by omega
        refine region_T (fun w' => w'.cell? ⟨g3, 0, none⟩ = some (.slice A j c) ∧ w'.cell? ⟨b5, 0, none⟩ = some (.string x.Code) ∧ w'.cell? ⟨b5, 1, none⟩ = some (.slice Ax x.Symbols.length cx)) 12 (by kernel_rfl) (And.intro (drew_keeps o0) (And.intro (drew_keeps v0) (drew_keeps v1))) (fun hS9 => ?_)
        refine AnyT.take (i := 0) (cs := [12]) rfl (by kernel_rfl) (by kernel_rfl) (by kernel_rfl) (by kernel_rfl) rfl (by kernel_rfl) (fun _ _ _ h => h) hS9 (by rfl) (by intro w hSw; (try dsimp only at hSw); go_simp; (try with_reducible rfl)) ?_
        try simp only [Act.put, List.setIfInBounds_toArray, List.set_cons_zero, List.set_cons_succ]
        refine AnyT.take (i := 1) (cs := [12]) rfl (by kernel_rfl) (by kernel_rfl) (by kernel_rfl) (by kernel_rfl) rfl (by kernel_rfl) (fun _ _ _ h => h) hS9 (by rfl) (by intro w hSw; (try dsimp only at hSw); go_simp; (try with_reducible rfl)) ?_
        try simp only [Act.put, List.setIfInBounds_toArray, List.set_cons_zero, List.set_cons_succ]
        refine AnyT.take (i := 2) (cs := [12]) rfl (by kernel_rfl) (by kernel_rfl) (by kernel_rfl) (by kernel_rfl) rfl (by kernel_rfl) (fun _ _ _ h => h) hS9 (by rfl) (by intro w hSw; (try dsimp only at hSw); go_simp; (try with_reducible rfl)) ?_
        try simp only [Act.put, List.setIfInBounds_toArray, List.set_cons_zero, List.set_cons_succ]
        refine AnyT.take (i := 3) (cs := [12]) rfl (by kernel_rfl) (by kernel_rfl) (by kernel_rfl) (by kernel_rfl) rfl (by kernel_rfl) (fun _ _ _ h => h) hS9 (by rfl) (by intro w hSw; (try dsimp only at hSw); go_simp; (try with_reducible rfl)) ?_
        try simp only [Act.put, List.setIfInBounds_toArray, List.set_cons_zero, List.set_cons_succ]
        refine AnyT.take (i := 5) (cs := [12]) rfl (by kernel_rfl) (by kernel_rfl) (by kernel_rfl) (by kernel_rfl) rfl (by kernel_rfl) (fun _ _ _ h => h) hS9 (by rfl) (by intro w hSw; (try dsimp only at hSw); go_simp; (try with_reducible rfl)) ?_
        try simp only [Act.put, List.setIfInBounds_toArray, List.set_cons_zero, List.set_cons_succ]
        refine AnyT.take (i := 6) (cs := [12]) rfl (by kernel_rfl) (by kernel_rfl) (by kernel_rfl) (by kernel_rfl) rfl (by kernel_rfl) (fun _ _ _ h => h) hS9 (by rfl) (by intro w hSw; (try dsimp only at hSw); go_simp; (try with_reducible rfl)) ?_
        try simp only [Act.put, List.setIfInBounds_toArray, List.set_cons_zero, List.set_cons_succ]
        refine AnyT.some1 (i := 4) (by kernel_rfl) rfl (fun K hK => ?_) 
        · go_simp
          have hS9 := And.intro (alloc_keeps (drew_keeps o0) (.cells #[] 118)) (And.intro (alloc_keeps (drew_keeps v0) (.cells #[] 118)) (alloc_keeps (drew_keeps v1) (.cells #[] 118)))
          refine hK.out _ _ hS9 ?_
          clear hK
          try simp only [Act.put, List.setIfInBounds_toArray, List.set_cons_zero, List.set_cons_succ]
          refine AnyT.some1 (i := 7) (by kernel_rfl) rfl (fun K hK => ?_) 
          · refine step_append_hasl (L := x.Symbols.length) rfl (.tmp 26) (.tmp 28) elSymbol flatSymbol (S := [V.heap.size]) (Has.emp tSymbol (heap_alloc_new _ _)) (Ty.up _ hsyV (by repeat (first | with_reducible exact Gro.refl _ | with_reducible exact Gro.refl_drew _ _ _ | with_reducible exact Gro.refl_drewN _ _ _ _ | assumption | with_reducible apply Gro.more | with_reducible apply Gro.alloc | with_reducible apply Gro.drew | with_reducible apply Gro.drewN))) rfl rfl rfl (Nat.zero_add _).symm (by omega) (by omega) ?_
            intro A6 c6 W6 S6 hon6 hH6 hS6
            rw [List.nil_append] at hH6
            have q0 := keep_thru o0 (by (repeat (first | with_reducible exact Gro.refl _ | with_reducible exact Gro.refl_drew _ _ _ | with_reducible exact Gro.refl_drewN _ _ _ _ | assumption | with_reducible apply Gro.more | with_reducible apply Gro.alloc | with_reducible apply Gro.drew | with_reducible apply Gro.drewN)); done) hon6 (by simpa using hVg3)
            have q1 := keep_thru v0 (by (repeat (first | with_reducible exact Gro.refl _ | with_reducible exact Gro.refl_drew _ _ _ | with_reducible exact Gro.refl_drewN _ _ _ _ | assumption | with_reducible apply Gro.more | with_reducible apply Gro.alloc | with_reducible apply Gro.drew | with_reducible apply Gro.drewN)); done) hon6 (by simpa using hVb5)
            have q2 := keep_thru v1 (by (repeat (first | with_reducible exact Gro.refl _ | with_reducible exact Gro.refl_drew _ _ _ | with_reducible exact Gro.refl_drewN _ _ _ _ | assumption | with_reducible apply Gro.more | with_reducible apply Gro.alloc | with_reducible apply Gro.drew | with_reducible apply Gro.drewN)); done) hon6 (by simpa using hVb5)
            have hGV6 : Gro V W6 := hon6.gro (W0 := V) (by (repeat (first | with_reducible exact Gro.refl _ | with_reducible exact Gro.refl_drew _ _ _ | with_reducible exact Gro.refl_drewN _ _ _ _ | assumption | with_reducible apply Gro.more | with_reducible apply Gro.alloc | with_reducible apply Gro.drew | with_reducible apply Gro.drewN)); done) (fun b hb' => by simp at hb'; omega)
            have hl6 : ∀ b ∈ S6, V.heap.size ≤ b := fun b hb' => by
              rcases hS6 b hb' with h | h
              · simp at h; omega
              · have h9 : V.heap.size + 1 ≤ b := by simpa using h
                omega
            have hS9 := And.intro q0 (And.intro q1 q2)
            refine hK.out _ _ hS9 ?_
            clear hK
            try simp only [Act.put, List.setIfInBounds_toArray, List.set_cons_zero, List.set_cons_succ]
            refine AnyT.take (i := 8) (cs := [12]) rfl (by kernel_rfl) (by kernel_rfl) (by kernel_rfl) (by kernel_rfl) rfl (by kernel_rfl) (fun _ _ _ h => h) hS9 (by rfl) (by intro w hSw; (try dsimp only at hSw); go_simp; (try with_reducible rfl)) ?_
            try simp only [Act.put, List.setIfInBounds_toArray, List.set_cons_zero, List.set_cons_succ]
            refine AnyT.some1 (i := 9) (by kernel_rfl) rfl (fun K hK => ?_) 
            · go_simp
              have hS9 := And.intro (alloc_keeps q0 (.cells #[.string x.Code, .slice A6 x.Symbols.length c6] 103)) (And.intro (alloc_keeps q1 (.cells #[.string x.Code, .slice A6 x.Symbols.length c6] 103)) (alloc_keeps q2 (.cells #[.string x.Code, .slice A6 x.Symbols.length c6] 103)))
              refine hK.out _ _ hS9 ?_
              clear hK
              try simp only [Act.put, List.setIfInBounds_toArray, List.set_cons_zero, List.set_cons_succ]
              refine AnyT.some1 (i := 10) (by kernel_rfl) rfl (fun K hK => ?_) 
              · have hHy : Has tImage (W6.alloc (.cells #[.string x.Code, .slice A6 x.Symbols.length c6] 103)) [.string x.Code, .slice A6 x.Symbols.length c6] x S6 := Has.gro (W := W6) ⟨tImage_mkOd p0 hH6.1, hH6.2⟩ (by (repeat (first | with_reducible exact Gro.refl _ | with_reducible exact Gro.refl_drew _ _ _ | with_reducible exact Gro.refl_drewN _ _ _ _ | assumption | with_reducible apply Gro.more | with_reducible apply Gro.alloc | with_reducible apply Gro.drew | with_reducible apply Gro.drewN)); done)
                have hG9 : Gro wr (W6.alloc (.cells #[.string x.Code, .slice A6 x.Symbols.length c6] 103)) := (hGV.trans hGV6).alloc _
                have hdis : ∀ b ∈ S, b ∉ S6 := fun b hb' hm => by have h1 := hl6 b hm; have h2 := hHV.lt b hb'; omega
                refine step_append_has (L := j + 1) rfl (.tmp 23) (.tmp 31) elImage (hH.out.gro hG9) hHy hdis rfl rfl rfl (by intro j u hu; simpa [go_sem] using hu) rfl (by omega) (by omega) ?_
                intro A7 c7 W7 S7 hon hH7 hS7
                have hgS : ∀ k, k < wc.heap.size → k ∉ S := fun k hk hm => by have := hS.out k hm; omega
                have hb5S : b5 ∉ S := fun hm => by have := hH.out.lt b5 hm; omega
                have e7 := frz_thru hb.out hG9 hon (hgS _ (by omega))
                have hS9 := And.intro (keep_thru (alloc_keeps q0 (.cells #[.string x.Code, .slice A6 x.Symbols.length c6] 103)) (Gro.refl _) hon (hgS _ (by omega))) (And.intro (keep_thru (alloc_keeps q1 (.cells #[.string x.Code, .slice A6 x.Symbols.length c6] 103)) (Gro.refl _) hon hb5S) (keep_thru (alloc_keeps q2 (.cells #[.string x.Code, .slice A6 x.Symbols.length c6] 103)) (Gro.refl _) hon hb5S))
                have hlo : ∀ b ∈ S7, wc.heap.size ≤ b := fun b hb' => by
                  rcases hS7 b hb' with h | h | h
                  · exact hS.out b h
                  · have := hl6 b h
                    have := hGV.size
                    omega
                  · have := hG9.size
                    omega
                have ho9 := only_step ho.out hG9 hon hS.out 0 (.slice A7 (j + 1) c7)
                have hb9 := set_at (i := 0) (v := .slice A7 (j + 1) c7) e7 rfl
                have hH9 := hH7.keep ((OnlyS.refl [g3] W7).setCell (p := ⟨g3, 0, none⟩) (by simp) (.slice A7 (j + 1) c7)) (fun b hb' hm => by have := hlo b hb'; simp at hm; omega)
                refine hK.out _ _ hS9 ?_
                clear hK
                try simp only [Act.put, List.setIfInBounds_toArray, List.set_cons_zero, List.set_cons_succ]
                refine AnyT.take (i := 11) (cs := [12]) rfl (by kernel_rfl) (by kernel_rfl) (by kernel_rfl) (by kernel_rfl) rfl (by kernel_rfl) (fun _ _ _ h => h) hS9 (by rfl) (by intro w hSw; (try dsimp only at hSw); go_simp; (try with_reducible rfl)) ?_
                try simp only [Act.put, List.setIfInBounds_toArray, List.set_cons_zero, List.set_cons_succ]
                obtain ⟨a0, a1, a2, af, al⟩ := row3 e7
                refine AnyT.last (by kernel_rfl) rfl (by kernel_rfl) (fun K hK => ?_)
                go_simp
                refine hK.out _ _ ?_
                clear hK
                try simp only [Act.put, List.setIfInBounds_toArray, List.set_cons_zero, List.set_cons_succ]
                generalize W7.setCell ⟨g3, 0, none⟩ (.slice A7 (j + 1) c7) = X at ho9 hb9 hH9 ⊢
                clear hS9 hon hH7 hS7 e7 hb hH ho
                have htk : s.Images.take j ++ [x] = s.Images.take (j + 1) := by rw [List.take_add_one, hxk]; rfl
                rw [htk] at hH9
                go_wp2_with (fail)
                go_roundw
                case measure => (simp [intOf]; try omega)
                case rel => exact ⟨j + 1, A7, c7, S7, by simp, by omega, Lib.hid ho9, Lib.hid hb9, Lib.hid hH9, Lib.hid hlo⟩
      · obtain rfl : j = s.Images.length := by omega
        have hki : ¬ (s.Images.length : Int) < (s.Images.length : Int) := by omega
        have hHt := hH.out
        rw [List.take_length] at hHt
        go_wp2_with (fail)
        have h9 := set3 (grow_blk er hGr) (.slice A s.Images.length c) (.slice B1 s.Bases.length d1) (.slice B2 s.Entries.length d2)
        obtain ⟨r0, r1, r2, _, _⟩ := row3 h9.1
        have hHI := hHt.keep h9.2 (fun b hb' hm => by have := hS.out b hb'; simp at hm; omega)
        have hHa := (HJ.ha.keep ho.out (fun b hb' hm => by simp at hm; exact HJ.hoa (hm ▸ hb'))).keep h9.2 (fun b hb' hm => by have := HJ.la b hb'; simp at hm; omega)
        have hHb := (HJ.hb.keep ho.out (fun b hb' hm => by simp at hm; exact HJ.hob (hm ▸ hb'))).keep h9.2 (fun b hb' hm => by have := HJ.lb b hb'; simp at hm; omega)
        have hYw : w.heap.size ≤ Y.heap.size := hG0.size
        refine bodyPost_ret (v := .agg #[.slice A s.Images.length c, .slice B1 s.Bases.length d1, .slice B2 s.Entries.length d2]) (by simp [results, Try.results57, go_sem, r0, r1, r2]) rfl ⟨A, c, B1, d1, B2, d2, rfl, ⟨_, tSpace_mkOd hHI.1 hHa.1 hHb.1, ?_, ?_⟩, h9.2.gro (hG0.trans hGr) (fun b hb' => by simp at hb'; omega)⟩
        · refine List.nodup_append.2 ⟨List.nodup_append.2 ⟨hHI.2, hHa.2, fun a ha b hb' he => ?_⟩, hHb.2, fun a ha b hb' he => ?_⟩
          · have h1 := hS.out a ha
            have h2 := HJ.ha.lt b hb'
            omega
          · rcases List.mem_append.1 ha with ha | ha
            · have h1 := hS.out a ha
              have h2 := HJ.hb.lt b hb'
              omega
            · exact HJ.hab a ha (he ▸ hb')
        · intro b hb'
          rcases List.mem_append.1 hb' with hb' | hb'
          · rcases List.mem_append.1 hb' with hb' | hb'
            · have := hS.out b hb'
              omega
            · have := HJ.la b hb'
              omega
          · have := HJ.lb b hb'
            omega

end Go.Proofs.Ytfhcegblnhagjaa
namespace Go.Proofs.Ytfhcegblnhagjaa
open Go.RowKit
def zeroP : DProcess := ⟨⟨[], [], []⟩, [], 0, 0, 0⟩
def procN (s : DSpace) (n : Nat) (sl : Int) : DProcess := ⟨s, List.replicate n (newM s).1, 0, sl, sl⟩
def newProc (s : DSpace) (th sl : Int) : DProcess × Bool := if btw th 1 3 = true ∧ procOk (procN s th.toNat sl) = true then (procN s th.toNat sl, true) else (zeroP, false)
def RetProcB (p : DProcess × Bool) (w : World) (e : Ending) (w' : World) : Prop := ∃ A0 c0 A1 c1 A2 c2 A3 c3, e = .returned (.tuple #[.agg #[.slice A0 p.1.Space.Images.length c0, .slice A1 p.1.Space.Bases.length c1, .slice A2 p.1.Space.Entries.length c2, .slice A3 p.1.Threads.length c3, .int .i64 p.1.Turn, .int .i64 p.1.Left, .int .i64 p.1.Slice], .bool p.2]) ∧ Fresh tProcess w w' [.slice A0 p.1.Space.Images.length c0, .slice A1 p.1.Space.Bases.length c1, .slice A2 p.1.Space.Entries.length c2, .slice A3 p.1.Threads.length c3, .int .i64 p.1.Turn, .int .i64 p.1.Left, .int .i64 p.1.Slice] p.1 ∧ Gro w w'
theorem leavesSpace {w : World} {B : Nat} {x : DSpace} {A0 : Option Addr} {c0 : Nat} {A1 : Option Addr} {c1 : Nat} {A2 : Option Addr} {c2 : Nat} (h : tSpace.R w B [.slice A0 x.Images.length c0, .slice A1 x.Bases.length c1, .slice A2 x.Entries.length c2] x) : (tImage.sl 103).R w B [.slice A0 x.Images.length c0] x.Images ∧ (intT.sl 3).R w B [.slice A1 x.Bases.length c1] x.Bases ∧ (intT.sl 3).R w B [.slice A2 x.Entries.length c2] x.Entries := by
  obtain ⟨A0', c0', A1', c1', A2', c2', hc, f0, f1, f2⟩ := tSpace_R h
  simp only [List.cons.injEq, Value.slice.injEq, true_and, and_true] at hc
  obtain ⟨⟨rfl, rfl⟩, ⟨rfl, rfl⟩, ⟨rfl, rfl⟩⟩ := hc
  exact ⟨f0, f1, f2⟩
theorem newM_sz (s : DSpace) : szMachine (newM s).1 ≤ 1200 := by
  unfold newM
  split
  · show (List.replicate 1200 (0 : Int)).length + 0 ≤ 1200
    rw [List.length_replicate]
    decide
  · exact Nat.zero_le _
theorem procN_sz (s : DSpace) (n : Nat) (sl : Int) : szProcess (procN s n sl) ≤ szSpace s + 1201 * n := by
  have h := newM_sz s
  unfold szProcess procN szL
  simp only [List.length_replicate, List.map_replicate, List.sum_replicate_nat]
  have := Nat.mul_le_mul_left n h
  omega
theorem procN_many (s : DSpace) (n : Nat) (sl : Int) (h : n = 0 ∨ 3 < n) : procOk (procN s n sl) = false := by
  unfold procOk
  have : btw ((procN s n sl).Threads.length) 1 3 = false := by
    unfold procN btw
    simp only [List.length_replicate]
    rcases h with h | h
    · subst h; rfl
    · have : ¬ ((n : Int) ≤ 3) := by omega
      simp [this]
      try omega
  rw [this]
  simp
/-- how many machines the reference makes -/
def rounds (th : Int) : Nat := if th ≤ 0 then 0 else if th ≤ 3 then th.toNat else 4
theorem rounds_lt {th : Int} {k : Nat} (h : k < rounds th) : (k : Int) < th ∧ (k : Int) ≤ 3 := by
  unfold rounds at h
  split at h
  · omega
  · split at h <;> omega
theorem rounds_ge {th : Int} : ¬ ((rounds th : Int) < th ∧ (rounds th : Int) ≤ 3) := by
  unfold rounds
  split
  · omega
  · split <;> omega
theorem newProc_rounds (s : DSpace) (th sl : Int) : newProc s th sl = if procOk (procN s (rounds th) sl) = true then (procN s (rounds th) sl, true) else (zeroP, false) := by
  unfold newProc rounds
  by_cases h0 : th ≤ 0
  · rw [if_pos h0, if_neg (by rw [btw_iff]; omega), if_neg (by rw [procN_many s 0 sl (.inl rfl)]; simp)]
  · rw [if_neg h0]
    by_cases h3 : th ≤ 3
    · rw [if_pos h3]
      have : btw th 1 3 = true := btw_iff.2 ⟨by omega, h3⟩
      simp only [this, true_and]
    · rw [if_neg h3, if_neg (by rw [btw_iff]; omega), if_neg (by rw [procN_many s 4 sl (.inr (by omega))]; simp)]
theorem zeroP_fresh (w W : World) (h : w.heap.size ≤ W.heap.size) : Fresh tProcess w W [.slice none 0 0, .slice none 0 0, .slice none 0 0, .slice none 0 0, .int .i64 0, .int .i64 0, .int .i64 0] zeroP := by
  have n0 : I64 0 := ⟨by decide, by decide⟩
  exact ⟨_, tProcess_mkOd (x := zeroP) (tSpace_mkOd (x := ⟨[], [], []⟩) (Has.nil tImage 103 W).1 (Has.nil intT 3 W).1 (Has.nil intT 3 W).1) (Has.nil tMachine 80 W).1 n0 n0 n0, by simp, by simp⟩
set_option maxRecDepth 100000 in
set_option maxHeartbeats 2000000 in
theorem newProc_s {s : DSpace} {th sl : Int} {w : World} {A0 A1 A2 : Option Addr} {c0 c1 c2 : Nat} (h0 : (tImage.sl 103).R w w.heap.size [.slice A0 s.Images.length c0] s.Images) (h1 : (intT.sl 3).R w w.heap.size [.slice A1 s.Bases.length c1] s.Bases)
    (h2 : (intT.sl 3).R w w.heap.size [.slice A2 s.Entries.length c2] s.Entries) (hs : szSpace s ≤ 1099511600000) (ht : I64 th) (hsl : I64 sl) :
    Calls Try.prog 18 #[.agg #[.slice A0 s.Images.length c0, .slice A1 s.Bases.length c1, .slice A2 s.Entries.length c2], .int .i64 th, .int .i64 sl] w (RetProcB (newProc s th sl) w) := by
  have hs2 : szSpace s ≤ 1099511627776 := by omega
  obtain ⟨m, hm⟩ : ∃ m, newM s = m := ⟨_, rfl⟩
  have HM := Lib.hid hm
  have hms : szMachine m.1 ≤ 1200 := by rw [← hm]; exact newM_sz s
  obtain ⟨K, hK⟩ : ∃ K, rounds th = K := ⟨_, rfl⟩
  have HKK := Lib.hid hK
  have hK4 : K ≤ 4 := by rw [← hK]; unfold rounds; split <;> (try split) <;> omega
  clear hm hK
  go_enter Try.func18, Try.ntmps18
  go_wp2_with (go_at_call 53; (with_reducible refine (copySpace_s (s := s) (Ty.up _ h0 (by repeat (first | with_reducible exact Gro.refl _ | with_reducible exact Gro.refl_drew _ _ _ | with_reducible exact Gro.refl_drewN _ _ _ _ | assumption | with_reducible apply Gro.more | with_reducible apply Gro.alloc | with_reducible apply Gro.drew | with_reducible apply Gro.drewN))) (Ty.up _ h1 (by repeat (first | with_reducible exact Gro.refl _ | with_reducible exact Gro.refl_drew _ _ _ | with_reducible exact Gro.refl_drewN _ _ _ _ | assumption | with_reducible apply Gro.more | with_reducible apply Gro.alloc | with_reducible apply Gro.drew | with_reducible apply Gro.drewN))) (Ty.up _ h2 (by repeat (first | with_reducible exact Gro.refl _ | with_reducible exact Gro.refl_drew _ _ _ | with_reducible exact Gro.refl_drewN _ _ _ _ | assumption | with_reducible apply Gro.more | with_reducible apply Gro.alloc | with_reducible apply Gro.drew | with_reducible apply Gro.drewN))) hs2).mono ?_); rintro e w1 ⟨B0, d0, B1, d1, B2, d2, rfl, hFs, os1, e1, rfl⟩)
  have hGc : Gro w ((gro ((w.alloc (.cells #[.slice A0 s.Images.length c0, .slice A1 s.Bases.length c1, .slice A2 s.Entries.length c2] 33)).alloc (.cells #[.slice none 0 0, .slice none 0 0, .slice none 0 0, .slice none 0 0, .int .i64 0, .int .i64 0, .int .i64 0] 36)) os1 e1).alloc (.cells #[.slice B0 s.Images.length d0, .slice B1 s.Bases.length d1, .slice B2 s.Entries.length d2, .slice none 0 0, .int .i64 0, .int .i64 sl, .int .i64 sl] 36)) := (by repeat (first | with_reducible exact Gro.refl _ | with_reducible exact Gro.refl_drew _ _ _ | with_reducible exact Gro.refl_drewN _ _ _ _ | assumption | with_reducible apply Gro.more | with_reducible apply Gro.alloc | with_reducible apply Gro.drew | with_reducible apply Gro.drewN))
  have eb : ((gro ((w.alloc (.cells #[.slice A0 s.Images.length c0, .slice A1 s.Bases.length c1, .slice A2 s.Entries.length c2] 33)).alloc (.cells #[.slice none 0 0, .slice none 0 0, .slice none 0 0, .slice none 0 0, .int .i64 0, .int .i64 0, .int .i64 0] 36)) os1 e1).alloc (.cells #[.slice B0 s.Images.length d0, .slice B1 s.Bases.length d1, .slice B2 s.Entries.length d2, .slice none 0 0, .int .i64 0, .int .i64 sl, .int .i64 sl] 36)).heap[w.heap.size]? = some (.cells #[.slice A0 s.Images.length c0, .slice A1 s.Bases.length c1, .slice A2 s.Entries.length c2] 33 (0, 0)) := grow_blk (heap_alloc_new w _) (by (repeat (first | with_reducible exact Gro.refl _ | with_reducible exact Gro.refl_drew _ _ _ | with_reducible exact Gro.refl_drewN _ _ _ _ | assumption | with_reducible apply Gro.more | with_reducible apply Gro.alloc | with_reducible apply Gro.drew | with_reducible apply Gro.drewN)); done)
  have er : ((gro ((w.alloc (.cells #[.slice A0 s.Images.length c0, .slice A1 s.Bases.length c1, .slice A2 s.Entries.length c2] 33)).alloc (.cells #[.slice none 0 0, .slice none 0 0, .slice none 0 0, .slice none 0 0, .int .i64 0, .int .i64 0, .int .i64 0] 36)) os1 e1).alloc (.cells #[.slice B0 s.Images.length d0, .slice B1 s.Bases.length d1, .slice B2 s.Entries.length d2, .slice none 0 0, .int .i64 0, .int .i64 sl, .int .i64 sl] 36)).heap[w.heap.size + 1]? = some (.cells #[.slice none 0 0, .slice none 0 0, .slice none 0 0, .slice none 0 0, .int .i64 0, .int .i64 0, .int .i64 0] 36 (0, 0)) := grow_blk (show ((w.alloc (.cells #[.slice A0 s.Images.length c0, .slice A1 s.Bases.length c1, .slice A2 s.Entries.length c2] 33)).alloc (.cells #[.slice none 0 0, .slice none 0 0, .slice none 0 0, .slice none 0 0, .int .i64 0, .int .i64 0, .int .i64 0] 36)).heap[w.heap.size + 1]? = _ from by have h := heap_alloc_new (w.alloc (.cells #[.slice A0 s.Images.length c0, .slice A1 s.Bases.length c1, .slice A2 s.Entries.length c2] 33)) (.cells #[.slice none 0 0, .slice none 0 0, .slice none 0 0, .slice none 0 0, .int .i64 0, .int .i64 0, .int .i64 0] 36); rw [World.size_alloc] at h; exact h) (by (repeat (first | with_reducible exact Gro.refl _ | with_reducible exact Gro.refl_drew _ _ _ | with_reducible exact Gro.refl_drewN _ _ _ _ | assumption | with_reducible apply Gro.more | with_reducible apply Gro.alloc | with_reducible apply Gro.drew | with_reducible apply Gro.drewN)); done)
  have e8 : ((gro ((w.alloc (.cells #[.slice A0 s.Images.length c0, .slice A1 s.Bases.length c1, .slice A2 s.Entries.length c2] 33)).alloc (.cells #[.slice none 0 0, .slice none 0 0, .slice none 0 0, .slice none 0 0, .int .i64 0, .int .i64 0, .int .i64 0] 36)) os1 e1).alloc (.cells #[.slice B0 s.Images.length d0, .slice B1 s.Bases.length d1, .slice B2 s.Entries.length d2, .slice none 0 0, .int .i64 0, .int .i64 sl, .int .i64 sl] 36)).heap[w.heap.size + 1 + 1 + os1.size]? = some (.cells #[.slice B0 s.Images.length d0, .slice B1 s.Bases.length d1, .slice B2 s.Entries.length d2, .slice none 0 0, .int .i64 0, .int .i64 sl, .int .i64 sl] 36 (0, 0)) := by
    have h := heap_alloc_new (gro ((w.alloc (.cells #[.slice A0 s.Images.length c0, .slice A1 s.Bases.length c1, .slice A2 s.Entries.length c2] 33)).alloc (.cells #[.slice none 0 0, .slice none 0 0, .slice none 0 0, .slice none 0 0, .int .i64 0, .int .i64 0, .int .i64 0] 36)) os1 e1) (.cells #[.slice B0 s.Images.length d0, .slice B1 s.Bases.length d1, .slice B2 s.Entries.length d2, .slice none 0 0, .int .i64 0, .int .i64 sl, .int .i64 sl] 36)
    rw [gro_size, World.size_alloc, World.size_alloc] at h
    exact h
  obtain ⟨SS, hHs0, hls⟩ := Fresh.has hFs
  have hHs := hHs0.gro (W' := ((gro ((w.alloc (.cells #[.slice A0 s.Images.length c0, .slice A1 s.Bases.length c1, .slice A2 s.Entries.length c2] 33)).alloc (.cells #[.slice none 0 0, .slice none 0 0, .slice none 0 0, .slice none 0 0, .int .i64 0, .int .i64 0, .int .i64 0] 36)) os1 e1).alloc (.cells #[.slice B0 s.Images.length d0, .slice B1 s.Bases.length d1, .slice B2 s.Entries.length d2, .slice none 0 0, .int .i64 0, .int .i64 sl, .int .i64 sl] 36))) (by (repeat (first | with_reducible exact Gro.refl _ | with_reducible exact Gro.refl_drew _ _ _ | with_reducible exact Gro.refl_drewN _ _ _ _ | assumption | with_reducible apply Gro.more | with_reducible apply Gro.alloc | with_reducible apply Gro.drew | with_reducible apply Gro.drewN)); done)
  have hlt8 : ∀ b ∈ SS, b < w.heap.size + 1 + 1 + os1.size := fun b hb => by have h := hHs0.lt b hb; rw [gro_size, World.size_alloc, World.size_alloc] at h; exact h
  have hls2 : ∀ b ∈ SS, w.heap.size + 1 < b := fun b hb => by have h := hls b hb; rw [World.size_alloc, World.size_alloc] at h; omega
  clear hls hHs0 hFs
  obtain ⟨g, hg⟩ : ∃ g, w.heap.size = g := ⟨_, rfl⟩
  rw [hg] at eb er e8 hlt8 hls2 ⊢
  obtain ⟨g8, hg8⟩ : ∃ g8, g + 1 + 1 + os1.size = g8 := ⟨_, rfl⟩
  rw [hg8] at e8 hlt8 ⊢
  generalize ((gro ((w.alloc (.cells #[.slice A0 s.Images.length c0, .slice A1 s.Bases.length c1, .slice A2 s.Entries.length c2] 33)).alloc (.cells #[.slice none 0 0, .slice none 0 0, .slice none 0 0, .slice none 0 0, .int .i64 0, .int .i64 0, .int .i64 0] 36)) os1 e1).alloc (.cells #[.slice B0 s.Images.length d0, .slice B1 s.Bases.length d1, .slice B2 s.Entries.length d2, .slice none 0 0, .int .i64 0, .int .i64 sl, .int .i64 sl] 36)) = wc at hGc eb er e8 hHs ⊢
  have hgg8 : g ≠ g8 := by omega
  have hgg9 : g + 1 ≠ g8 := by omega
  have hl8 := (Array.getElem?_eq_some_iff.1 e8).1
  go_loopw [9, 10, 11] (fun a b cc wr => ∃ (k : Nat) (A : Option Addr) (c : Nat) (S : List Nat), a = .int .i64 k ∧ k ≤ K ∧ Hid (OnlyS [g8] wc wr) ∧ Hid (wr.heap[g8]? = some (.cells #[.slice B0 s.Images.length d0, .slice B1 s.Bases.length d1, .slice B2 s.Entries.length d2, .slice A k c, .int .i64 0, .int .i64 sl, .int .i64 sl] 36 (0, 0))) ∧ Hid (Has (tMachine.sl 80) wr [.slice A k c] (List.replicate k m.1) S) ∧ Hid (∀ b ∈ S, wc.heap.size ≤ b)) (fun a _ _ _ => K - (intOf a).toNat)
  case atStart => exact ⟨0, none, 0, [], rfl, Nat.zero_le _, Lib.hid (OnlyS.refl _ _), Lib.hid e8, Lib.hid (Has.nil _ _ _), Lib.hid (by simp)⟩
  case round =>
    obtain ⟨k, A, c, S, rfl, hkK, ho, hb, hH, hS⟩ := hrel
    have hGr : Gro w wr := ho.out.gro hGc (fun b hb => by simp at hb; omega)
    have hwl : wc.heap.size ≤ wr.heap.size := ho.out.size
    have ebr := (ho.out.block g (Array.getElem?_eq_some_iff.1 eb).1 (by simpa using hgg8)).trans eb
    have err := (ho.out.block (g + 1) (Array.getElem?_eq_some_iff.1 er).1 (by simpa using hgg9)).trans er
    obtain ⟨q0, q1, q2, _, ql⟩ := row3 ebr
    obtain ⟨p0, p1, p2, p3, p4, p5, p6, pf, pl⟩ := row7 hb.out
    obtain ⟨z0, z1, z2, z3, z4, z5, z6, zf, zl⟩ := row7 err
    by_cases hlt : k < K
    · have hr := rounds_lt (show k < rounds th by rw [HKK.out]; exact hlt)
      have r0 : decide ((k : Int) < th) = true := decide_eq_true hr.1
      have r1 : decide ((k : Int) ≤ 3) = true := decide_eq_true hr.2
      have hr0 := Ty.up _ h0 hGr
      have hr1 := Ty.up _ h1 hGr
      have hr2 := Ty.up _ h2 hGr
      have hrr := hr.1
      have hrs := hr.2
      go_wp2_with (first
        | (go_at_call 54; (with_reducible refine (newM_s (s := s) (Ty.up _ hr0 (by repeat (first | with_reducible exact Gro.refl _ | with_reducible exact Gro.refl_drew _ _ _ | with_reducible exact Gro.refl_drewN _ _ _ _ | assumption | with_reducible apply Gro.more | with_reducible apply Gro.alloc | with_reducible apply Gro.drew | with_reducible apply Gro.drewN))) (Ty.up _ hr1 (by repeat (first | with_reducible exact Gro.refl _ | with_reducible exact Gro.refl_drew _ _ _ | with_reducible exact Gro.refl_drewN _ _ _ _ | assumption | with_reducible apply Gro.more | with_reducible apply Gro.alloc | with_reducible apply Gro.drew | with_reducible apply Gro.drewN))) (Ty.up _ hr2 (by repeat (first | with_reducible exact Gro.refl _ | with_reducible exact Gro.refl_drew _ _ _ | with_reducible exact Gro.refl_drewN _ _ _ _ | assumption | with_reducible apply Gro.more | with_reducible apply Gro.alloc | with_reducible apply Gro.drew | with_reducible apply Gro.drewN))) hs2).mono ?_); rw [HM.out]; rintro e w2 ⟨Am, cm, Ao, co, rfl, hFm, os2, e2, rfl⟩)
        | (at_builtin; obtain ⟨Sy, hHm, hly⟩ := Fresh.has hFm; refine wpList_append_has (L := k + 1) rfl (.tmp 32) (.tmp 34) elMachine (hH.out.gro (by (repeat (first | with_reducible exact Gro.refl _ | with_reducible exact Gro.refl_drew _ _ _ | with_reducible exact Gro.refl_drewN _ _ _ _ | assumption | with_reducible apply Gro.more | with_reducible apply Gro.alloc | with_reducible apply Gro.drew | with_reducible apply Gro.drewN)); done)) (hHm.gro (by (repeat (first | with_reducible exact Gro.refl _ | with_reducible exact Gro.refl_drew _ _ _ | with_reducible exact Gro.refl_drewN _ _ _ _ | assumption | with_reducible apply Gro.more | with_reducible apply Gro.alloc | with_reducible apply Gro.drew | with_reducible apply Gro.drewN)); done)) (fun b hb' hm => by have h1 := hly b hm; have h2 := hH.out.lt b hb'; omega) rfl rfl rfl (by intro j u hu; simpa [go_sem] using hu) rfl (by omega) (by omega) ?_; intro A7 c7 W7 S7 hon hH7 hS7; have e7 := frz_thru hb.out (by (repeat (first | with_reducible exact Gro.refl _ | with_reducible exact Gro.refl_drew _ _ _ | with_reducible exact Gro.refl_drewN _ _ _ _ | assumption | with_reducible apply Gro.more | with_reducible apply Gro.alloc | with_reducible apply Gro.drew | with_reducible apply Gro.drewN)); done) hon (fun hm => by have := hS.out g8 hm; omega); obtain ⟨a0, a1, a2, a3, a4, a5, a6, af, al⟩ := row7 e7; have ho9 := only_step ho.out (by (repeat (first | with_reducible exact Gro.refl _ | with_reducible exact Gro.refl_drew _ _ _ | with_reducible exact Gro.refl_drewN _ _ _ _ | assumption | with_reducible apply Gro.more | with_reducible apply Gro.alloc | with_reducible apply Gro.drew | with_reducible apply Gro.drewN)); done) hon hS.out 3 (.slice A7 (k + 1) c7); have hb9 := set_at (i := 3) (v := .slice A7 (k + 1) c7) e7 rfl; have hlo : ∀ b ∈ S7, wc.heap.size ≤ b := fun b hb' => (by rcases hS7 b hb' with h | h | h; (exact hS.out b h); (have := hly b h; omega); (simp at h; omega)); have hH9 := hH7.keep ((OnlyS.refl [g8] W7).setCell (p := ⟨g8, 3, none⟩) (by simp) (.slice A7 (k + 1) c7)) (fun b hb' hm => by have := hlo b hb'; simp at hm; omega); rw [← List.replicate_succ'] at hH9))
      go_roundw
      case measure => (simp [intOf]; try omega)
      case rel => exact ⟨k + 1, A7, c7, S7, by simp, by omega, Lib.hid ho9, Lib.hid hb9, Lib.hid hH9, Lib.hid hlo⟩
    · obtain rfl : k = K := by omega
      obtain ⟨ts, hts⟩ : ∃ ts, List.replicate k m.1 = ts := ⟨_, rfl⟩
      have hlen : k = ts.length := by rw [← hts, List.length_replicate]
      have hP : procN s k sl = ⟨s, ts, 0, sl, sl⟩ := by unfold procN; rw [HM.out, hts]
      have hsz : szProcess ⟨s, ts, 0, sl, sl⟩ ≤ 1099511627776 := by rw [← hP]; have := procN_sz s k sl; omega
      have hHr := hH.out
      rw [hts] at hHr
      have hge := rounds_ge (th := th)
      rw [HKK.out] at hge
      have hnp := newProc_rounds s th sl
      rw [HKK.out, hP] at hnp
      have n0 : I64 0 := ⟨by decide, by decide⟩
      have hHsw := hHs.keep ho.out (fun b hb' hm => by have := hlt8 b hb'; simp at hm; omega)
      obtain ⟨f0, f1, f2⟩ := leavesSpace hHsw.read
      have f3 := hHr.read
      clear hts hP hlt hkK
      subst hlen
      obtain ⟨bp, hbp⟩ : ∃ b, procOk ⟨s, ts, 0, sl, sl⟩ = b := ⟨_, rfl⟩
      have HB := Lib.hid hbp
      rw [hbp] at hnp
      clear hbp
      by_cases q : (ts.length : Int) < th
      · have r0 : decide ((ts.length : Int) < th) = true := decide_eq_true q
        have q3 : ¬ ((ts.length : Int) ≤ 3) := fun h => hge ⟨q, h⟩
        have r1 : decide ((ts.length : Int) ≤ 3) = false := decide_eq_false q3
        clear hge
        cases bp with
        | false =>
          have HQ := Lib.hid hnp
          clear hnp
          go_wp2_with (go_at_call 11; (with_reducible refine (procOk_s (x := ⟨s, ts, 0, sl, sl⟩) (Ty.up _ f0 (by repeat (first | with_reducible exact Gro.refl _ | with_reducible exact Gro.refl_drew _ _ _ | with_reducible exact Gro.refl_drewN _ _ _ _ | assumption | with_reducible apply Gro.more | with_reducible apply Gro.alloc | with_reducible apply Gro.drew | with_reducible apply Gro.drewN))) (Ty.up _ f1 (by repeat (first | with_reducible exact Gro.refl _ | with_reducible exact Gro.refl_drew _ _ _ | with_reducible exact Gro.refl_drewN _ _ _ _ | assumption | with_reducible apply Gro.more | with_reducible apply Gro.alloc | with_reducible apply Gro.drew | with_reducible apply Gro.drewN))) (Ty.up _ f2 (by repeat (first | with_reducible exact Gro.refl _ | with_reducible exact Gro.refl_drew _ _ _ | with_reducible exact Gro.refl_drewN _ _ _ _ | assumption | with_reducible apply Gro.more | with_reducible apply Gro.alloc | with_reducible apply Gro.drew | with_reducible apply Gro.drewN))) (Ty.up _ f3 (by repeat (first | with_reducible exact Gro.refl _ | with_reducible exact Gro.refl_drew _ _ _ | with_reducible exact Gro.refl_drewN _ _ _ _ | assumption | with_reducible apply Gro.more | with_reducible apply Gro.alloc | with_reducible apply Gro.drew | with_reducible apply Gro.drewN))) hsz).mono ?_); rw [HB.out]; rintro e w3 ⟨rfl, os3, e3, rfl⟩; have e83 := grow_blk hb.out (Gro.of wr os3 e3); obtain ⟨a0, a1, a2, a3, a4, a5, a6, af, al⟩ := row7 e83; have err3 := grow_blk err (Gro.of wr os3 e3); obtain ⟨y0, y1, y2, y3, y4, y5, y6, yf, yl⟩ := row7 err3)
          have h9 := set7 err (.slice none 0 0) (.slice none 0 0) (.slice none 0 0) (.slice none 0 0) (.int .i64 0) (.int .i64 0) (.int .i64 0)
          generalize (((((((wr.setCell ⟨g + 1, 0, none⟩ (.slice none 0 0)).setCell ⟨g + 1, 1, none⟩ (.slice none 0 0)).setCell ⟨g + 1, 2, none⟩ (.slice none 0 0)).setCell ⟨g + 1, 3, none⟩ (.slice none 0 0)).setCell ⟨g + 1, 4, none⟩ (.int .i64 0)).setCell ⟨g + 1, 5, none⟩ (.int .i64 0)).setCell ⟨g + 1, 6, none⟩ (.int .i64 0)) = X at h9 ⊢
          obtain ⟨r0, r1, r2, r3, r4, r5, r6, _, _⟩ := row7 (grow_blk h9.1 (Gro.of X os3 e3))
          have hG9 := (h9.2.gro hGr (fun b hb' => by simp at hb'; omega)).more os3 e3
          rw [HQ.out]
          refine bodyPost_ret (v := .tuple #[.agg #[.slice none 0 0, .slice none 0 0, .slice none 0 0, .slice none 0 0, .int .i64 0, .int .i64 0, .int .i64 0], .bool false]) (by simp [results, Try.results18, go_sem, r0, r1, r2, r3, r4, r5, r6]) rfl ⟨none, 0, none, 0, none, 0, none, 0, rfl, zeroP_fresh _ _ hG9.size, hG9⟩
        | true =>
          have HQ := Lib.hid hnp
          clear hnp
          go_wp2_with (go_at_call 11; (with_reducible refine (procOk_s (x := ⟨s, ts, 0, sl, sl⟩) (Ty.up _ f0 (by repeat (first | with_reducible exact Gro.refl _ | with_reducible exact Gro.refl_drew _ _ _ | with_reducible exact Gro.refl_drewN _ _ _ _ | assumption | with_reducible apply Gro.more | with_reducible apply Gro.alloc | with_reducible apply Gro.drew | with_reducible apply Gro.drewN))) (Ty.up _ f1 (by repeat (first | with_reducible exact Gro.refl _ | with_reducible exact Gro.refl_drew _ _ _ | with_reducible exact Gro.refl_drewN _ _ _ _ | assumption | with_reducible apply Gro.more | with_reducible apply Gro.alloc | with_reducible apply Gro.drew | with_reducible apply Gro.drewN))) (Ty.up _ f2 (by repeat (first | with_reducible exact Gro.refl _ | with_reducible exact Gro.refl_drew _ _ _ | with_reducible exact Gro.refl_drewN _ _ _ _ | assumption | with_reducible apply Gro.more | with_reducible apply Gro.alloc | with_reducible apply Gro.drew | with_reducible apply Gro.drewN))) (Ty.up _ f3 (by repeat (first | with_reducible exact Gro.refl _ | with_reducible exact Gro.refl_drew _ _ _ | with_reducible exact Gro.refl_drewN _ _ _ _ | assumption | with_reducible apply Gro.more | with_reducible apply Gro.alloc | with_reducible apply Gro.drew | with_reducible apply Gro.drewN))) hsz).mono ?_); rw [HB.out]; rintro e w3 ⟨rfl, os3, e3, rfl⟩; have e83 := grow_blk hb.out (Gro.of wr os3 e3); obtain ⟨a0, a1, a2, a3, a4, a5, a6, af, al⟩ := row7 e83; have err3 := grow_blk err (Gro.of wr os3 e3); obtain ⟨y0, y1, y2, y3, y4, y5, y6, yf, yl⟩ := row7 err3)
          have h9 := set7 err (.slice B0 s.Images.length d0) (.slice B1 s.Bases.length d1) (.slice B2 s.Entries.length d2) (.slice A ts.length c) (.int .i64 0) (.int .i64 sl) (.int .i64 sl)
          generalize (((((((wr.setCell ⟨g + 1, 0, none⟩ (.slice B0 s.Images.length d0)).setCell ⟨g + 1, 1, none⟩ (.slice B1 s.Bases.length d1)).setCell ⟨g + 1, 2, none⟩ (.slice B2 s.Entries.length d2)).setCell ⟨g + 1, 3, none⟩ (.slice A ts.length c)).setCell ⟨g + 1, 4, none⟩ (.int .i64 0)).setCell ⟨g + 1, 5, none⟩ (.int .i64 sl)).setCell ⟨g + 1, 6, none⟩ (.int .i64 sl)) = X at h9 ⊢
          obtain ⟨r0, r1, r2, r3, r4, r5, r6, _, _⟩ := row7 (grow_blk h9.1 (Gro.of X os3 e3))
          have hG9 := (h9.2.gro hGr (fun b hb' => by simp at hb'; omega)).more os3 e3
          rw [HQ.out]
          have hHs9 := (hHsw.keep h9.2 (fun b hb' hm => by have := hls2 b hb'; simp at hm; omega)).gro (Gro.of X os3 e3)
          have hH9 := (hHr.keep h9.2 (fun b hb' hm => by have := hS.out b hb'; simp at hm; omega)).gro (Gro.of X os3 e3)
          refine bodyPost_ret (v := .tuple #[.agg #[.slice B0 s.Images.length d0, .slice B1 s.Bases.length d1, .slice B2 s.Entries.length d2, .slice A ts.length c, .int .i64 0, .int .i64 sl, .int .i64 sl], .bool true]) (by simp [results, Try.results18, go_sem, r0, r1, r2, r3, r4, r5, r6]) rfl ⟨B0, d0, B1, d1, B2, d2, A, c, rfl, ⟨_, tProcess_mkOd (x := ⟨s, ts, 0, sl, sl⟩) hHs9.1 hH9.1 n0 hsl hsl, ?_, ?_⟩, hG9⟩
          · refine List.nodup_append.2 ⟨hHs9.2, hH9.2, fun a ha b hb' he => ?_⟩
            have h1 := hS.out b hb'
            have h2 := hlt8 a ha
            omega
          · intro b hb'
            rcases List.mem_append.1 hb' with hb' | hb'
            · have := hls2 b hb'
              omega
            · have := hS.out b hb'
              omega
      · have r0 : decide ((ts.length : Int) < th) = false := decide_eq_false q
        clear hge
        cases bp with
        | false =>
          have HQ := Lib.hid hnp
          clear hnp
          go_wp2_with (go_at_call 11; (with_reducible refine (procOk_s (x := ⟨s, ts, 0, sl, sl⟩) (Ty.up _ f0 (by repeat (first | with_reducible exact Gro.refl _ | with_reducible exact Gro.refl_drew _ _ _ | with_reducible exact Gro.refl_drewN _ _ _ _ | assumption | with_reducible apply Gro.more | with_reducible apply Gro.alloc | with_reducible apply Gro.drew | with_reducible apply Gro.drewN))) (Ty.up _ f1 (by repeat (first | with_reducible exact Gro.refl _ | with_reducible exact Gro.refl_drew _ _ _ | with_reducible exact Gro.refl_drewN _ _ _ _ | assumption | with_reducible apply Gro.more | with_reducible apply Gro.alloc | with_reducible apply Gro.drew | with_reducible apply Gro.drewN))) (Ty.up _ f2 (by repeat (first | with_reducible exact Gro.refl _ | with_reducible exact Gro.refl_drew _ _ _ | with_reducible exact Gro.refl_drewN _ _ _ _ | assumption | with_reducible apply Gro.more | with_reducible apply Gro.alloc | with_reducible apply Gro.drew | with_reducible apply Gro.drewN))) (Ty.up _ f3 (by repeat (first | with_reducible exact Gro.refl _ | with_reducible exact Gro.refl_drew _ _ _ | with_reducible exact Gro.refl_drewN _ _ _ _ | assumption | with_reducible apply Gro.more | with_reducible apply Gro.alloc | with_reducible apply Gro.drew | with_reducible apply Gro.drewN))) hsz).mono ?_); rw [HB.out]; rintro e w3 ⟨rfl, os3, e3, rfl⟩; have e83 := grow_blk hb.out (Gro.of wr os3 e3); obtain ⟨a0, a1, a2, a3, a4, a5, a6, af, al⟩ := row7 e83; have err3 := grow_blk err (Gro.of wr os3 e3); obtain ⟨y0, y1, y2, y3, y4, y5, y6, yf, yl⟩ := row7 err3)
          have h9 := set7 err (.slice none 0 0) (.slice none 0 0) (.slice none 0 0) (.slice none 0 0) (.int .i64 0) (.int .i64 0) (.int .i64 0)
          generalize (((((((wr.setCell ⟨g + 1, 0, none⟩ (.slice none 0 0)).setCell ⟨g + 1, 1, none⟩ (.slice none 0 0)).setCell ⟨g + 1, 2, none⟩ (.slice none 0 0)).setCell ⟨g + 1, 3, none⟩ (.slice none 0 0)).setCell ⟨g + 1, 4, none⟩ (.int .i64 0)).setCell ⟨g + 1, 5, none⟩ (.int .i64 0)).setCell ⟨g + 1, 6, none⟩ (.int .i64 0)) = X at h9 ⊢
          obtain ⟨r0, r1, r2, r3, r4, r5, r6, _, _⟩ := row7 (grow_blk h9.1 (Gro.of X os3 e3))
          have hG9 := (h9.2.gro hGr (fun b hb' => by simp at hb'; omega)).more os3 e3
          rw [HQ.out]
          refine bodyPost_ret (v := .tuple #[.agg #[.slice none 0 0, .slice none 0 0, .slice none 0 0, .slice none 0 0, .int .i64 0, .int .i64 0, .int .i64 0], .bool false]) (by simp [results, Try.results18, go_sem, r0, r1, r2, r3, r4, r5, r6]) rfl ⟨none, 0, none, 0, none, 0, none, 0, rfl, zeroP_fresh _ _ hG9.size, hG9⟩
        | true =>
          have HQ := Lib.hid hnp
          clear hnp
          go_wp2_with (go_at_call 11; (with_reducible refine (procOk_s (x := ⟨s, ts, 0, sl, sl⟩) (Ty.up _ f0 (by repeat (first | with_reducible exact Gro.refl _ | with_reducible exact Gro.refl_drew _ _ _ | with_reducible exact Gro.refl_drewN _ _ _ _ | assumption | with_reducible apply Gro.more | with_reducible apply Gro.alloc | with_reducible apply Gro.drew | with_reducible apply Gro.drewN))) (Ty.up _ f1 (by repeat (first | with_reducible exact Gro.refl _ | with_reducible exact Gro.refl_drew _ _ _ | with_reducible exact Gro.refl_drewN _ _ _ _ | assumption | with_reducible apply Gro.more | with_reducible apply Gro.alloc | with_reducible apply Gro.drew | with_reducible apply Gro.drewN))) (Ty.up _ f2 (by repeat (first | with_reducible exact Gro.refl _ | with_reducible exact Gro.refl_drew _ _ _ | with_reducible exact Gro.refl_drewN _ _ _ _ | assumption | with_reducible apply Gro.more | with_reducible apply Gro.alloc | with_reducible apply Gro.drew | with_reducible apply Gro.drewN))) (Ty.up _ f3 (by repeat (first | with_reducible exact Gro.refl _ | with_reducible exact Gro.refl_drew _ _ _ | with_reducible exact Gro.refl_drewN _ _ _ _ | assumption | with_reducible apply Gro.more | with_reducible apply Gro.alloc | with_reducible apply Gro.drew | with_reducible apply Gro.drewN))) hsz).mono ?_); rw [HB.out]; rintro e w3 ⟨rfl, os3, e3, rfl⟩; have e83 := grow_blk hb.out (Gro.of wr os3 e3); obtain ⟨a0, a1, a2, a3, a4, a5, a6, af, al⟩ := row7 e83; have err3 := grow_blk err (Gro.of wr os3 e3); obtain ⟨y0, y1, y2, y3, y4, y5, y6, yf, yl⟩ := row7 err3)
          have h9 := set7 err (.slice B0 s.Images.length d0) (.slice B1 s.Bases.length d1) (.slice B2 s.Entries.length d2) (.slice A ts.length c) (.int .i64 0) (.int .i64 sl) (.int .i64 sl)
          generalize (((((((wr.setCell ⟨g + 1, 0, none⟩ (.slice B0 s.Images.length d0)).setCell ⟨g + 1, 1, none⟩ (.slice B1 s.Bases.length d1)).setCell ⟨g + 1, 2, none⟩ (.slice B2 s.Entries.length d2)).setCell ⟨g + 1, 3, none⟩ (.slice A ts.length c)).setCell ⟨g + 1, 4, none⟩ (.int .i64 0)).setCell ⟨g + 1, 5, none⟩ (.int .i64 sl)).setCell ⟨g + 1, 6, none⟩ (.int .i64 sl)) = X at h9 ⊢
          obtain ⟨r0, r1, r2, r3, r4, r5, r6, _, _⟩ := row7 (grow_blk h9.1 (Gro.of X os3 e3))
          have hG9 := (h9.2.gro hGr (fun b hb' => by simp at hb'; omega)).more os3 e3
          rw [HQ.out]
          have hHs9 := (hHsw.keep h9.2 (fun b hb' hm => by have := hls2 b hb'; simp at hm; omega)).gro (Gro.of X os3 e3)
          have hH9 := (hHr.keep h9.2 (fun b hb' hm => by have := hS.out b hb'; simp at hm; omega)).gro (Gro.of X os3 e3)
          refine bodyPost_ret (v := .tuple #[.agg #[.slice B0 s.Images.length d0, .slice B1 s.Bases.length d1, .slice B2 s.Entries.length d2, .slice A ts.length c, .int .i64 0, .int .i64 sl, .int .i64 sl], .bool true]) (by simp [results, Try.results18, go_sem, r0, r1, r2, r3, r4, r5, r6]) rfl ⟨B0, d0, B1, d1, B2, d2, A, c, rfl, ⟨_, tProcess_mkOd (x := ⟨s, ts, 0, sl, sl⟩) hHs9.1 hH9.1 n0 hsl hsl, ?_, ?_⟩, hG9⟩
          · refine List.nodup_append.2 ⟨hHs9.2, hH9.2, fun a ha b hb' he => ?_⟩
            have h1 := hS.out b hb'
            have h2 := hlt8 a ha
            omega
          · intro b hb'
            rcases List.mem_append.1 hb' with hb' | hb'
            · have := hls2 b hb'
              omega
            · have := hS.out b hb'
              omega
end Go.Proofs.Ytfhcegblnhagjaa
namespace Go.Proofs.Ytfhcegblnhagjaa
open Go.RowKit
theorem cntL_le {α : Type} {f g : α → Nat} {k : Nat} (h : ∀ x, f x ≤ k * (1 + g x)) (xs : List α) : cntL f xs ≤ k * szL g xs := by
  unfold cntL szL
  induction xs with
  | nil => simp
  | cons x xs ih =>
    simp only [List.map_cons, List.sum_cons, List.length_cons]
    have h1 := h x
    rw [Nat.mul_add] at *
    have e1 : k * (xs.length + 1) = k * xs.length + k := by rw [Nat.mul_add, Nat.mul_one]
    have e2 : k * (g x + (xs.map g).sum) = k * g x + k * (xs.map g).sum := Nat.mul_add _ _ _
    omega
theorem cntProcess_sz (x : DProcess) : cntProcess x ≤ 5 * szProcess x := by
  have hm := cntL_le (f := cntEMachine) (g := szMachine) (k := 5) (fun m => by unfold cntEMachine szMachine; omega) x.Threads
  have hi := cntL_le (f := cntEImage) (g := szImage) (k := 3) (fun m => by unfold cntEImage szImage szL cntSymbolS; omega) x.Space.Images
  unfold cntProcess cntSpace cntMachineS cntImageS szProcess szSpace
  omega
theorem cntSpace_sz (x : DSpace) : cntSpace x ≤ 5 * szSpace x := by
  have hi := cntL_le (f := cntEImage) (g := szImage) (k := 3) (fun m => by unfold cntEImage szImage szL cntSymbolS; omega) x.Images
  unfold cntSpace cntImageS szSpace
  omega
end Go.Proofs.Ytfhcegblnhagjaa
namespace Go.Proofs.Ytfhcegblnhagjaa
open Go.RowKit
theorem newProc_bad (s : DSpace) (th sl : Int) (h : spaceOk s = false) : newProc s th sl = (zeroP, false) := by
  unfold newProc
  rw [if_neg]
  unfold procOk procN
  rw [h]
  simp
theorem newProc_sz (s : DSpace) (th sl : Int) : szProcess (newProc s th sl).1 ≤ szSpace s + 3603 := by
  unfold newProc
  split
  · rename_i h
    have h1 := btw_iff.1 h.1
    have h2 := procN_sz s th.toNat sl
    show szProcess (procN s th.toNat sl) ≤ _
    omega
  · show szProcess zeroP ≤ _
    have h0 : szProcess zeroP = 0 := rfl
    omega
theorem process_lens (x : DProcess) : x.Space.Images.length ≤ szProcess x ∧ x.Space.Bases.length ≤ szProcess x ∧ x.Space.Entries.length ≤ szProcess x ∧ x.Threads.length ≤ szProcess x := by
  unfold szProcess szSpace szL
  omega
set_option maxRecDepth 100000 in
set_option maxHeartbeats 2000000 in
theorem newProc_i {s : DSpace} {th sl : Int} {w : World} {A0 A1 A2 : Option Addr} {c0 c1 c2 : Nat} (h0 : (tImage.sl 103).R w w.heap.size [.slice A0 s.Images.length c0] s.Images) (h1 : (intT.sl 3).R w w.heap.size [.slice A1 s.Bases.length c1] s.Bases)
    (h2 : (intT.sl 3).R w w.heap.size [.slice A2 s.Entries.length c2] s.Entries) (hs : szSpace s ≤ 1099511600000) (ht : I64 th) (hsl : I64 sl) :
    Calls Try.prog 20 #[.agg #[.slice A0 s.Images.length c0, .slice A1 s.Bases.length c1, .slice A2 s.Entries.length c2], .int .i64 th, .int .i64 sl] w (RetProcB (newProc s th sl) w) := by
  have hs2 : szSpace s ≤ 1099511627776 := by omega
  obtain ⟨m, hm⟩ : ∃ m, newM s = m := ⟨_, rfl⟩
  have HM := Lib.hid hm
  have hms : szMachine m.1 ≤ 1200 := by rw [← hm]; exact newM_sz s
  obtain ⟨b0, q0⟩ : ∃ b, spaceOk s = b := ⟨_, rfl⟩
  obtain ⟨b1, q1⟩ : ∃ b, btw th 1 3 = b := ⟨_, rfl⟩
  have H0 := Lib.hid q0
  have H1 := Lib.hid q1
  cases b0 with
  | false =>
    have HQ := Lib.hid (newProc_bad s th sl q0)
    clear q0 q1 hm
    go_enter Try.func20, Try.ntmps20
    go_wp2_with (first
      | (go_at_call 47; (with_reducible refine (spaceOk_i (s := s) (Ty.up _ h0 (by repeat (first | with_reducible exact Gro.refl _ | with_reducible exact Gro.refl_drew _ _ _ | with_reducible exact Gro.refl_drewN _ _ _ _ | assumption | with_reducible apply Gro.more | with_reducible apply Gro.alloc | with_reducible apply Gro.drew | with_reducible apply Gro.drewN))) (Ty.up _ h1 (by repeat (first | with_reducible exact Gro.refl _ | with_reducible exact Gro.refl_drew _ _ _ | with_reducible exact Gro.refl_drewN _ _ _ _ | assumption | with_reducible apply Gro.more | with_reducible apply Gro.alloc | with_reducible apply Gro.drew | with_reducible apply Gro.drewN))) (Ty.up _ h2 (by repeat (first | with_reducible exact Gro.refl _ | with_reducible exact Gro.refl_drew _ _ _ | with_reducible exact Gro.refl_drewN _ _ _ _ | assumption | with_reducible apply Gro.more | with_reducible apply Gro.alloc | with_reducible apply Gro.drew | with_reducible apply Gro.drewN))) hs2).mono ?_); rw [H0.out]; rintro e w1 ⟨rfl, os0, e0, rfl⟩)
      | (go_at_call 48; (with_reducible refine (in_i _ _ _ _).mono ?_); rw [H1.out]; rintro e w1 ⟨rfl, rfl⟩))
    rw [HQ.out]
    exact bodyPost_ret (v := .tuple #[.agg #[.slice none 0 0, .slice none 0 0, .slice none 0 0, .slice none 0 0, .int .i64 0, .int .i64 0, .int .i64 0], .bool false]) (by simp [results, Try.results20, go_sem]) rfl ⟨none, 0, none, 0, none, 0, none, 0, rfl, zeroP_fresh _ _ (by simp <;> omega), (by repeat (first | with_reducible exact Gro.refl _ | with_reducible exact Gro.refl_drew _ _ _ | with_reducible exact Gro.refl_drewN _ _ _ _ | assumption | with_reducible apply Gro.more | with_reducible apply Gro.alloc | with_reducible apply Gro.drew | with_reducible apply Gro.drewN))⟩
  | true =>
  cases b1 with
  | false =>
    have HQ := Lib.hid (show newProc s th sl = (zeroP, false) from by unfold newProc; rw [q1]; rfl)
    clear q0 q1 hm
    go_enter Try.func20, Try.ntmps20
    go_wp2_with (first
      | (go_at_call 47; (with_reducible refine (spaceOk_i (s := s) (Ty.up _ h0 (by repeat (first | with_reducible exact Gro.refl _ | with_reducible exact Gro.refl_drew _ _ _ | with_reducible exact Gro.refl_drewN _ _ _ _ | assumption | with_reducible apply Gro.more | with_reducible apply Gro.alloc | with_reducible apply Gro.drew | with_reducible apply Gro.drewN))) (Ty.up _ h1 (by repeat (first | with_reducible exact Gro.refl _ | with_reducible exact Gro.refl_drew _ _ _ | with_reducible exact Gro.refl_drewN _ _ _ _ | assumption | with_reducible apply Gro.more | with_reducible apply Gro.alloc | with_reducible apply Gro.drew | with_reducible apply Gro.drewN))) (Ty.up _ h2 (by repeat (first | with_reducible exact Gro.refl _ | with_reducible exact Gro.refl_drew _ _ _ | with_reducible exact Gro.refl_drewN _ _ _ _ | assumption | with_reducible apply Gro.more | with_reducible apply Gro.alloc | with_reducible apply Gro.drew | with_reducible apply Gro.drewN))) hs2).mono ?_); rw [H0.out]; rintro e w1 ⟨rfl, os0, e0, rfl⟩)
      | (go_at_call 48; (with_reducible refine (in_i _ _ _ _).mono ?_); rw [H1.out]; rintro e w1 ⟨rfl, rfl⟩))
    rw [HQ.out]
    exact bodyPost_ret (v := .tuple #[.agg #[.slice none 0 0, .slice none 0 0, .slice none 0 0, .slice none 0 0, .int .i64 0, .int .i64 0, .int .i64 0], .bool false]) (by simp [results, Try.results20, go_sem]) rfl ⟨none, 0, none, 0, none, 0, none, 0, rfl, zeroP_fresh _ _ (by simp <;> omega), (by repeat (first | with_reducible exact Gro.refl _ | with_reducible exact Gro.refl_drew _ _ _ | with_reducible exact Gro.refl_drewN _ _ _ _ | assumption | with_reducible apply Gro.more | with_reducible apply Gro.alloc | with_reducible apply Gro.drew | with_reducible apply Gro.drewN))⟩
  | true =>
  have hth := btw_iff.1 q1
  obtain ⟨K, rfl⟩ := Int.eq_ofNat_of_zero_le (show 0 ≤ th by omega)
  have hK4 : K ≤ 4 := by omega
  have hnp0 : newProc s (K : Int) sl = if procOk (procN s K sl) = true then (procN s K sl, true) else (zeroP, false) := by
    unfold newProc
    rw [q1, Int.toNat_natCast]
    simp
  have HNP := Lib.hid hnp0
  clear hm q0 q1 hnp0
  go_enter Try.func20, Try.ntmps20
  go_wp2_with (first
      | (go_at_call 47; (with_reducible refine (spaceOk_i (s := s) (Ty.up _ h0 (by repeat (first | with_reducible exact Gro.refl _ | with_reducible exact Gro.refl_drew _ _ _ | with_reducible exact Gro.refl_drewN _ _ _ _ | assumption | with_reducible apply Gro.more | with_reducible apply Gro.alloc | with_reducible apply Gro.drew | with_reducible apply Gro.drewN))) (Ty.up _ h1 (by repeat (first | with_reducible exact Gro.refl _ | with_reducible exact Gro.refl_drew _ _ _ | with_reducible exact Gro.refl_drewN _ _ _ _ | assumption | with_reducible apply Gro.more | with_reducible apply Gro.alloc | with_reducible apply Gro.drew | with_reducible apply Gro.drewN))) (Ty.up _ h2 (by repeat (first | with_reducible exact Gro.refl _ | with_reducible exact Gro.refl_drew _ _ _ | with_reducible exact Gro.refl_drewN _ _ _ _ | assumption | with_reducible apply Gro.more | with_reducible apply Gro.alloc | with_reducible apply Gro.drew | with_reducible apply Gro.drewN))) hs2).mono ?_); rw [H0.out]; rintro e w1 ⟨rfl, os0, e0, rfl⟩)
      | (go_at_call 48; (with_reducible refine (in_i _ _ _ _).mono ?_); rw [H1.out]; rintro e w1 ⟨rfl, rfl⟩)
      | (go_at_call 57; (with_reducible refine (copySpace_i (s := s) (Ty.up _ h0 (by repeat (first | with_reducible exact Gro.refl _ | with_reducible exact Gro.refl_drew _ _ _ | with_reducible exact Gro.refl_drewN _ _ _ _ | assumption | with_reducible apply Gro.more | with_reducible apply Gro.alloc | with_reducible apply Gro.drew | with_reducible apply Gro.drewN))) (Ty.up _ h1 (by repeat (first | with_reducible exact Gro.refl _ | with_reducible exact Gro.refl_drew _ _ _ | with_reducible exact Gro.refl_drewN _ _ _ _ | assumption | with_reducible apply Gro.more | with_reducible apply Gro.alloc | with_reducible apply Gro.drew | with_reducible apply Gro.drewN))) (Ty.up _ h2 (by repeat (first | with_reducible exact Gro.refl _ | with_reducible exact Gro.refl_drew _ _ _ | with_reducible exact Gro.refl_drewN _ _ _ _ | assumption | with_reducible apply Gro.more | with_reducible apply Gro.alloc | with_reducible apply Gro.drew | with_reducible apply Gro.drewN))) hs2).mono ?_); rintro e w1 ⟨B0, d0, B1, d1, B2, d2, rfl, hFs, os1, e1, rfl⟩))
  have hGc : Gro w ((gro (gro ((w.alloc (.cells #[.slice A0 s.Images.length c0, .slice A1 s.Bases.length c1, .slice A2 s.Entries.length c2] 33)).alloc (.cells #[.slice none 0 0, .slice none 0 0, .slice none 0 0, .slice none 0 0, .int .i64 0, .int .i64 0, .int .i64 0] 36)) os0 e0) os1 e1).alloc (.cells #[.slice B0 s.Images.length d0, .slice B1 s.Bases.length d1, .slice B2 s.Entries.length d2, .slice none 0 0, .int .i64 0, .int .i64 sl, .int .i64 sl] 36)) := (by repeat (first | with_reducible exact Gro.refl _ | with_reducible exact Gro.refl_drew _ _ _ | with_reducible exact Gro.refl_drewN _ _ _ _ | assumption | with_reducible apply Gro.more | with_reducible apply Gro.alloc | with_reducible apply Gro.drew | with_reducible apply Gro.drewN))
  have eb : ((gro (gro ((w.alloc (.cells #[.slice A0 s.Images.length c0, .slice A1 s.Bases.length c1, .slice A2 s.Entries.length c2] 33)).alloc (.cells #[.slice none 0 0, .slice none 0 0, .slice none 0 0, .slice none 0 0, .int .i64 0, .int .i64 0, .int .i64 0] 36)) os0 e0) os1 e1).alloc (.cells #[.slice B0 s.Images.length d0, .slice B1 s.Bases.length d1, .slice B2 s.Entries.length d2, .slice none 0 0, .int .i64 0, .int .i64 sl, .int .i64 sl] 36)).heap[w.heap.size]? = some (.cells #[.slice A0 s.Images.length c0, .slice A1 s.Bases.length c1, .slice A2 s.Entries.length c2] 33 (0, 0)) := grow_blk (heap_alloc_new w _) (by (repeat (first | with_reducible exact Gro.refl _ | with_reducible exact Gro.refl_drew _ _ _ | with_reducible exact Gro.refl_drewN _ _ _ _ | assumption | with_reducible apply Gro.more | with_reducible apply Gro.alloc | with_reducible apply Gro.drew | with_reducible apply Gro.drewN)); done)
  have er : ((gro (gro ((w.alloc (.cells #[.slice A0 s.Images.length c0, .slice A1 s.Bases.length c1, .slice A2 s.Entries.length c2] 33)).alloc (.cells #[.slice none 0 0, .slice none 0 0, .slice none 0 0, .slice none 0 0, .int .i64 0, .int .i64 0, .int .i64 0] 36)) os0 e0) os1 e1).alloc (.cells #[.slice B0 s.Images.length d0, .slice B1 s.Bases.length d1, .slice B2 s.Entries.length d2, .slice none 0 0, .int .i64 0, .int .i64 sl, .int .i64 sl] 36)).heap[w.heap.size + 1]? = some (.cells #[.slice none 0 0, .slice none 0 0, .slice none 0 0, .slice none 0 0, .int .i64 0, .int .i64 0, .int .i64 0] 36 (0, 0)) := grow_blk (show ((w.alloc (.cells #[.slice A0 s.Images.length c0, .slice A1 s.Bases.length c1, .slice A2 s.Entries.length c2] 33)).alloc (.cells #[.slice none 0 0, .slice none 0 0, .slice none 0 0, .slice none 0 0, .int .i64 0, .int .i64 0, .int .i64 0] 36)).heap[w.heap.size + 1]? = _ from by have h := heap_alloc_new (w.alloc (.cells #[.slice A0 s.Images.length c0, .slice A1 s.Bases.length c1, .slice A2 s.Entries.length c2] 33)) (.cells #[.slice none 0 0, .slice none 0 0, .slice none 0 0, .slice none 0 0, .int .i64 0, .int .i64 0, .int .i64 0] 36); rw [World.size_alloc] at h; exact h) (by (repeat (first | with_reducible exact Gro.refl _ | with_reducible exact Gro.refl_drew _ _ _ | with_reducible exact Gro.refl_drewN _ _ _ _ | assumption | with_reducible apply Gro.more | with_reducible apply Gro.alloc | with_reducible apply Gro.drew | with_reducible apply Gro.drewN)); done)
  have e8 : ((gro (gro ((w.alloc (.cells #[.slice A0 s.Images.length c0, .slice A1 s.Bases.length c1, .slice A2 s.Entries.length c2] 33)).alloc (.cells #[.slice none 0 0, .slice none 0 0, .slice none 0 0, .slice none 0 0, .int .i64 0, .int .i64 0, .int .i64 0] 36)) os0 e0) os1 e1).alloc (.cells #[.slice B0 s.Images.length d0, .slice B1 s.Bases.length d1, .slice B2 s.Entries.length d2, .slice none 0 0, .int .i64 0, .int .i64 sl, .int .i64 sl] 36)).heap[w.heap.size + 1 + 1 + os0.size + os1.size]? = some (.cells #[.slice B0 s.Images.length d0, .slice B1 s.Bases.length d1, .slice B2 s.Entries.length d2, .slice none 0 0, .int .i64 0, .int .i64 sl, .int .i64 sl] 36 (0, 0)) := by
    have h := heap_alloc_new (gro (gro ((w.alloc (.cells #[.slice A0 s.Images.length c0, .slice A1 s.Bases.length c1, .slice A2 s.Entries.length c2] 33)).alloc (.cells #[.slice none 0 0, .slice none 0 0, .slice none 0 0, .slice none 0 0, .int .i64 0, .int .i64 0, .int .i64 0] 36)) os0 e0) os1 e1) (.cells #[.slice B0 s.Images.length d0, .slice B1 s.Bases.length d1, .slice B2 s.Entries.length d2, .slice none 0 0, .int .i64 0, .int .i64 sl, .int .i64 sl] 36)
    rw [gro_size, gro_size, World.size_alloc, World.size_alloc] at h
    exact h
  obtain ⟨SS, hHs0, hls⟩ := Fresh.has hFs
  have hHs := hHs0.gro (W' := ((gro (gro ((w.alloc (.cells #[.slice A0 s.Images.length c0, .slice A1 s.Bases.length c1, .slice A2 s.Entries.length c2] 33)).alloc (.cells #[.slice none 0 0, .slice none 0 0, .slice none 0 0, .slice none 0 0, .int .i64 0, .int .i64 0, .int .i64 0] 36)) os0 e0) os1 e1).alloc (.cells #[.slice B0 s.Images.length d0, .slice B1 s.Bases.length d1, .slice B2 s.Entries.length d2, .slice none 0 0, .int .i64 0, .int .i64 sl, .int .i64 sl] 36))) (by (repeat (first | with_reducible exact Gro.refl _ | with_reducible exact Gro.refl_drew _ _ _ | with_reducible exact Gro.refl_drewN _ _ _ _ | assumption | with_reducible apply Gro.more | with_reducible apply Gro.alloc | with_reducible apply Gro.drew | with_reducible apply Gro.drewN)); done)
  have hlt8 : ∀ b ∈ SS, b < w.heap.size + 1 + 1 + os0.size + os1.size := fun b hb => by have h := hHs0.lt b hb; rw [gro_size, gro_size, World.size_alloc, World.size_alloc] at h; exact h
  have hls2 : ∀ b ∈ SS, w.heap.size + 1 < b := fun b hb => by have h := hls b hb; rw [gro_size, World.size_alloc, World.size_alloc] at h; omega
  clear hls hHs0 hFs
  obtain ⟨g, hg⟩ : ∃ g, w.heap.size = g := ⟨_, rfl⟩
  rw [hg] at eb er e8 hlt8 hls2 ⊢
  obtain ⟨g8, hg8⟩ : ∃ g8, g + 1 + 1 + os0.size + os1.size = g8 := ⟨_, rfl⟩
  rw [hg8] at e8 hlt8 ⊢
  generalize ((gro (gro ((w.alloc (.cells #[.slice A0 s.Images.length c0, .slice A1 s.Bases.length c1, .slice A2 s.Entries.length c2] 33)).alloc (.cells #[.slice none 0 0, .slice none 0 0, .slice none 0 0, .slice none 0 0, .int .i64 0, .int .i64 0, .int .i64 0] 36)) os0 e0) os1 e1).alloc (.cells #[.slice B0 s.Images.length d0, .slice B1 s.Bases.length d1, .slice B2 s.Entries.length d2, .slice none 0 0, .int .i64 0, .int .i64 sl, .int .i64 sl] 36)) = wc at hGc eb er e8 hHs ⊢
  have hgg8 : g ≠ g8 := by omega
  have hgg9 : g + 1 ≠ g8 := by omega
  have hl8 := (Array.getElem?_eq_some_iff.1 e8).1
  go_loopw [9, 10, 11] (fun a b cc wr => ∃ (k : Nat) (A : Option Addr) (c : Nat) (S : List Nat), a = .int .i64 k ∧ k ≤ K ∧ Hid (OnlyS [g8] wc wr) ∧ Hid (wr.heap[g8]? = some (.cells #[.slice B0 s.Images.length d0, .slice B1 s.Bases.length d1, .slice B2 s.Entries.length d2, .slice A k c, .int .i64 0, .int .i64 sl, .int .i64 sl] 36 (0, 0))) ∧ Hid (Has (tMachine.sl 80) wr [.slice A k c] (List.replicate k m.1) S) ∧ Hid (∀ b ∈ S, wc.heap.size ≤ b)) (fun a _ _ _ => K - (intOf a).toNat)
  case atStart => exact ⟨0, none, 0, [], rfl, Nat.zero_le _, Lib.hid (OnlyS.refl _ _), Lib.hid e8, Lib.hid (Has.nil _ _ _), Lib.hid (by simp)⟩
  case round =>
    obtain ⟨k, A, c, S, rfl, hkK, ho, hb, hH, hS⟩ := hrel
    have hGr : Gro w wr := ho.out.gro hGc (fun b hb => by simp at hb; omega)
    have hwl : wc.heap.size ≤ wr.heap.size := ho.out.size
    have ebr := (ho.out.block g (Array.getElem?_eq_some_iff.1 eb).1 (by simpa using hgg8)).trans eb
    have err := (ho.out.block (g + 1) (Array.getElem?_eq_some_iff.1 er).1 (by simpa using hgg9)).trans er
    obtain ⟨q0, q1, q2, _, ql⟩ := row3 ebr
    obtain ⟨p0, p1, p2, p3, p4, p5, p6, pf, pl⟩ := row7 hb.out
    obtain ⟨z0, z1, z2, z3, z4, z5, z6, zf, zl⟩ := row7 err
    by_cases hlt : k < K
    · have hki : (k : Int) < (K : Int) := by omega
      have hr0 := Ty.up _ h0 hGr
      have hr1 := Ty.up _ h1 hGr
      have hr2 := Ty.up _ h2 hGr
      go_wp2_with (first
        | (go_at_call 58; (with_reducible refine (newM_i (s := s) (Ty.up _ hr0 (by repeat (first | with_reducible exact Gro.refl _ | with_reducible exact Gro.refl_drew _ _ _ | with_reducible exact Gro.refl_drewN _ _ _ _ | assumption | with_reducible apply Gro.more | with_reducible apply Gro.alloc | with_reducible apply Gro.drew | with_reducible apply Gro.drewN))) (Ty.up _ hr1 (by repeat (first | with_reducible exact Gro.refl _ | with_reducible exact Gro.refl_drew _ _ _ | with_reducible exact Gro.refl_drewN _ _ _ _ | assumption | with_reducible apply Gro.more | with_reducible apply Gro.alloc | with_reducible apply Gro.drew | with_reducible apply Gro.drewN))) (Ty.up _ hr2 (by repeat (first | with_reducible exact Gro.refl _ | with_reducible exact Gro.refl_drew _ _ _ | with_reducible exact Gro.refl_drewN _ _ _ _ | assumption | with_reducible apply Gro.more | with_reducible apply Gro.alloc | with_reducible apply Gro.drew | with_reducible apply Gro.drewN))) hs2).mono ?_); rw [HM.out]; rintro e w2 ⟨Am, cm, Ao, co, rfl, hFm, os2, e2, rfl⟩)
        | (at_builtin; obtain ⟨Sy, hHm, hly⟩ := Fresh.has hFm; refine wpList_append_has (L := k + 1) rfl (.tmp 37) (.tmp 39) elMachine (hH.out.gro (by (repeat (first | with_reducible exact Gro.refl _ | with_reducible exact Gro.refl_drew _ _ _ | with_reducible exact Gro.refl_drewN _ _ _ _ | assumption | with_reducible apply Gro.more | with_reducible apply Gro.alloc | with_reducible apply Gro.drew | with_reducible apply Gro.drewN)); done)) (hHm.gro (by (repeat (first | with_reducible exact Gro.refl _ | with_reducible exact Gro.refl_drew _ _ _ | with_reducible exact Gro.refl_drewN _ _ _ _ | assumption | with_reducible apply Gro.more | with_reducible apply Gro.alloc | with_reducible apply Gro.drew | with_reducible apply Gro.drewN)); done)) (fun b hb' hm => by have h1 := hly b hm; have h2 := hH.out.lt b hb'; omega) rfl rfl rfl (by intro j u hu; simpa [go_sem] using hu) rfl (by omega) (by omega) ?_; intro A7 c7 W7 S7 hon hH7 hS7; have e7 := frz_thru hb.out (by (repeat (first | with_reducible exact Gro.refl _ | with_reducible exact Gro.refl_drew _ _ _ | with_reducible exact Gro.refl_drewN _ _ _ _ | assumption | with_reducible apply Gro.more | with_reducible apply Gro.alloc | with_reducible apply Gro.drew | with_reducible apply Gro.drewN)); done) hon (fun hm => by have := hS.out g8 hm; omega); obtain ⟨a0, a1, a2, a3, a4, a5, a6, af, al⟩ := row7 e7; have ho9 := only_step ho.out (by (repeat (first | with_reducible exact Gro.refl _ | with_reducible exact Gro.refl_drew _ _ _ | with_reducible exact Gro.refl_drewN _ _ _ _ | assumption | with_reducible apply Gro.more | with_reducible apply Gro.alloc | with_reducible apply Gro.drew | with_reducible apply Gro.drewN)); done) hon hS.out 3 (.slice A7 (k + 1) c7); have hb9 := set_at (i := 3) (v := .slice A7 (k + 1) c7) e7 rfl; have hlo : ∀ b ∈ S7, wc.heap.size ≤ b := fun b hb' => (by rcases hS7 b hb' with h | h | h; (exact hS.out b h); (have := hly b h; omega); (simp at h; omega)); have hH9 := hH7.keep ((OnlyS.refl [g8] W7).setCell (p := ⟨g8, 3, none⟩) (by simp) (.slice A7 (k + 1) c7)) (fun b hb' hm => by have := hlo b hb'; simp at hm; omega); rw [← List.replicate_succ'] at hH9))
      go_roundw
      case measure => (simp [intOf]; try omega)
      case rel => exact ⟨k + 1, A7, c7, S7, by simp, by omega, Lib.hid ho9, Lib.hid hb9, Lib.hid hH9, Lib.hid hlo⟩
    · obtain rfl : k = K := by omega
      obtain ⟨ts, hts⟩ : ∃ ts, List.replicate k m.1 = ts := ⟨_, rfl⟩
      have hlen : k = ts.length := by rw [← hts, List.length_replicate]
      have hP : procN s k sl = ⟨s, ts, 0, sl, sl⟩ := by unfold procN; rw [HM.out, hts]
      have hsz : szProcess ⟨s, ts, 0, sl, sl⟩ ≤ 1099511627776 := by rw [← hP]; have := procN_sz s k sl; omega
      have hHr := hH.out
      rw [hts] at hHr
      have hnp := HNP.out
      rw [hP] at hnp
      have n0 : I64 0 := ⟨by decide, by decide⟩
      have hHsw := hHs.keep ho.out (fun b hb' hm => by have := hlt8 b hb'; simp at hm; omega)
      obtain ⟨f0, f1, f2⟩ := leavesSpace hHsw.read
      have f3 := hHr.read
      clear hts hP hlt hkK HNP
      subst hlen
      obtain ⟨bp, hbp⟩ : ∃ b, procOk ⟨s, ts, 0, sl, sl⟩ = b := ⟨_, rfl⟩
      have HB := Lib.hid hbp
      rw [hbp] at hnp
      clear hbp
      have hki : ¬ ((ts.length : Int) < (ts.length : Int)) := by omega
      cases bp with
      | false =>
        have HQ := Lib.hid hnp
        clear hnp
        go_wp2_with (go_at_call 13; (with_reducible refine (procOk_i (x := ⟨s, ts, 0, sl, sl⟩) (Ty.up _ f0 (by repeat (first | with_reducible exact Gro.refl _ | with_reducible exact Gro.refl_drew _ _ _ | with_reducible exact Gro.refl_drewN _ _ _ _ | assumption | with_reducible apply Gro.more | with_reducible apply Gro.alloc | with_reducible apply Gro.drew | with_reducible apply Gro.drewN))) (Ty.up _ f1 (by repeat (first | with_reducible exact Gro.refl _ | with_reducible exact Gro.refl_drew _ _ _ | with_reducible exact Gro.refl_drewN _ _ _ _ | assumption | with_reducible apply Gro.more | with_reducible apply Gro.alloc | with_reducible apply Gro.drew | with_reducible apply Gro.drewN))) (Ty.up _ f2 (by repeat (first | with_reducible exact Gro.refl _ | with_reducible exact Gro.refl_drew _ _ _ | with_reducible exact Gro.refl_drewN _ _ _ _ | assumption | with_reducible apply Gro.more | with_reducible apply Gro.alloc | with_reducible apply Gro.drew | with_reducible apply Gro.drewN))) (Ty.up _ f3 (by repeat (first | with_reducible exact Gro.refl _ | with_reducible exact Gro.refl_drew _ _ _ | with_reducible exact Gro.refl_drewN _ _ _ _ | assumption | with_reducible apply Gro.more | with_reducible apply Gro.alloc | with_reducible apply Gro.drew | with_reducible apply Gro.drewN))) hsz).mono ?_); rw [HB.out]; rintro e w3 ⟨rfl, os3, e3, rfl⟩; have e83 := grow_blk hb.out (Gro.of wr os3 e3); obtain ⟨a0, a1, a2, a3, a4, a5, a6, af, al⟩ := row7 e83; have err3 := grow_blk err (Gro.of wr os3 e3); obtain ⟨y0, y1, y2, y3, y4, y5, y6, yf, yl⟩ := row7 err3)
        have h9 := set7 err (.slice none 0 0) (.slice none 0 0) (.slice none 0 0) (.slice none 0 0) (.int .i64 0) (.int .i64 0) (.int .i64 0)
        generalize (((((((wr.setCell ⟨g + 1, 0, none⟩ (.slice none 0 0)).setCell ⟨g + 1, 1, none⟩ (.slice none 0 0)).setCell ⟨g + 1, 2, none⟩ (.slice none 0 0)).setCell ⟨g + 1, 3, none⟩ (.slice none 0 0)).setCell ⟨g + 1, 4, none⟩ (.int .i64 0)).setCell ⟨g + 1, 5, none⟩ (.int .i64 0)).setCell ⟨g + 1, 6, none⟩ (.int .i64 0)) = X at h9 ⊢
        obtain ⟨r0, r1, r2, r3, r4, r5, r6, _, _⟩ := row7 (grow_blk h9.1 (Gro.of X os3 e3))
        have hG9 := (h9.2.gro hGr (fun b hb' => by simp at hb'; omega)).more os3 e3
        rw [HQ.out]
        refine bodyPost_ret (v := .tuple #[.agg #[.slice none 0 0, .slice none 0 0, .slice none 0 0, .slice none 0 0, .int .i64 0, .int .i64 0, .int .i64 0], .bool false]) (by simp [results, Try.results20, go_sem, r0, r1, r2, r3, r4, r5, r6]) rfl ⟨none, 0, none, 0, none, 0, none, 0, rfl, zeroP_fresh _ _ hG9.size, hG9⟩
      | true =>
        have HQ := Lib.hid hnp
        clear hnp
        go_wp2_with (go_at_call 13; (with_reducible refine (procOk_i (x := ⟨s, ts, 0, sl, sl⟩) (Ty.up _ f0 (by repeat (first | with_reducible exact Gro.refl _ | with_reducible exact Gro.refl_drew _ _ _ | with_reducible exact Gro.refl_drewN _ _ _ _ | assumption | with_reducible apply Gro.more | with_reducible apply Gro.alloc | with_reducible apply Gro.drew | with_reducible apply Gro.drewN))) (Ty.up _ f1 (by repeat (first | with_reducible exact Gro.refl _ | with_reducible exact Gro.refl_drew _ _ _ | with_reducible exact Gro.refl_drewN _ _ _ _ | assumption | with_reducible apply Gro.more | with_reducible apply Gro.alloc | with_reducible apply Gro.drew | with_reducible apply Gro.drewN))) (Ty.up _ f2 (by repeat (first | with_reducible exact Gro.refl _ | with_reducible exact Gro.refl_drew _ _ _ | with_reducible exact Gro.refl_drewN _ _ _ _ | assumption | with_reducible apply Gro.more | with_reducible apply Gro.alloc | with_reducible apply Gro.drew | with_reducible apply Gro.drewN))) (Ty.up _ f3 (by repeat (first | with_reducible exact Gro.refl _ | with_reducible exact Gro.refl_drew _ _ _ | with_reducible exact Gro.refl_drewN _ _ _ _ | assumption | with_reducible apply Gro.more | with_reducible apply Gro.alloc | with_reducible apply Gro.drew | with_reducible apply Gro.drewN))) hsz).mono ?_); rw [HB.out]; rintro e w3 ⟨rfl, os3, e3, rfl⟩; have e83 := grow_blk hb.out (Gro.of wr os3 e3); obtain ⟨a0, a1, a2, a3, a4, a5, a6, af, al⟩ := row7 e83; have err3 := grow_blk err (Gro.of wr os3 e3); obtain ⟨y0, y1, y2, y3, y4, y5, y6, yf, yl⟩ := row7 err3)
        have h9 := set7 err (.slice B0 s.Images.length d0) (.slice B1 s.Bases.length d1) (.slice B2 s.Entries.length d2) (.slice A ts.length c) (.int .i64 0) (.int .i64 sl) (.int .i64 sl)
        generalize (((((((wr.setCell ⟨g + 1, 0, none⟩ (.slice B0 s.Images.length d0)).setCell ⟨g + 1, 1, none⟩ (.slice B1 s.Bases.length d1)).setCell ⟨g + 1, 2, none⟩ (.slice B2 s.Entries.length d2)).setCell ⟨g + 1, 3, none⟩ (.slice A ts.length c)).setCell ⟨g + 1, 4, none⟩ (.int .i64 0)).setCell ⟨g + 1, 5, none⟩ (.int .i64 sl)).setCell ⟨g + 1, 6, none⟩ (.int .i64 sl)) = X at h9 ⊢
        obtain ⟨r0, r1, r2, r3, r4, r5, r6, _, _⟩ := row7 (grow_blk h9.1 (Gro.of X os3 e3))
        have hG9 := (h9.2.gro hGr (fun b hb' => by simp at hb'; omega)).more os3 e3
        rw [HQ.out]
        have hHs9 := (hHsw.keep h9.2 (fun b hb' hm => by have := hls2 b hb'; simp at hm; omega)).gro (Gro.of X os3 e3)
        have hH9 := (hHr.keep h9.2 (fun b hb' hm => by have := hS.out b hb'; simp at hm; omega)).gro (Gro.of X os3 e3)
        refine bodyPost_ret (v := .tuple #[.agg #[.slice B0 s.Images.length d0, .slice B1 s.Bases.length d1, .slice B2 s.Entries.length d2, .slice A ts.length c, .int .i64 0, .int .i64 sl, .int .i64 sl], .bool true]) (by simp [results, Try.results20, go_sem, r0, r1, r2, r3, r4, r5, r6]) rfl ⟨B0, d0, B1, d1, B2, d2, A, c, rfl, ⟨_, tProcess_mkOd (x := ⟨s, ts, 0, sl, sl⟩) hHs9.1 hH9.1 n0 hsl hsl, ?_, ?_⟩, hG9⟩
        · refine List.nodup_append.2 ⟨hHs9.2, hH9.2, fun a ha b hb' he => ?_⟩
          have h1 := hS.out b hb'
          have h2 := hlt8 a ha
          omega
        · intro b hb'
          rcases List.mem_append.1 hb' with hb' | hb'
          · have := hls2 b hb'
            omega
          · have := hS.out b hb'
            omega
end Go.Proofs.Ytfhcegblnhagjaa
namespace Go.Proofs.Ytfhcegblnhagjaa.fnExactNewProcess
open Go.ChangeShapes Go.WideShapes Go.ChangeAt Go.RowKit
open Go.ChangeMaps (open_string shut_string)
theorem own : ownKnob Try.prog.godebug = none := by kernel_rfl
theorem laidOut : laidOutB Try.prog = true := by kernel_rfl
theorem rdSpace {w : World} {B : Nat} {x : DSpace} {A0 : Option Addr} {c0 : Nat} {A1 : Option Addr} {c1 : Nat} {A2 : Option Addr} {c2 : Nat} (h : tSpace.R w B [.slice A0 x.Images.length c0, .slice A1 x.Bases.length c1, .slice A2 x.Entries.length c2] x) : (tImage.sl 103).R w B [.slice A0 x.Images.length c0] x.Images ∧ (intT.sl 3).R w B [.slice A1 x.Bases.length c1] x.Bases ∧ (intT.sl 3).R w B [.slice A2 x.Entries.length c2] x.Entries := by
  obtain ⟨A0', c0', A1', c1', A2', c2', hc, f0, f1, f2⟩ := tSpace_R h
  simp only [List.cons.injEq, Value.slice.injEq, true_and, and_true] at hc
  obtain ⟨⟨rfl, rfl⟩, ⟨rfl, rfl⟩, ⟨rfl, rfl⟩⟩ := hc
  exact ⟨f0, f1, f2⟩
theorem rdProcess {w : World} {B : Nat} {x : DProcess} {A0 : Option Addr} {c0 : Nat} {A1 : Option Addr} {c1 : Nat} {A2 : Option Addr} {c2 : Nat} {A3 : Option Addr} {c3 : Nat} (h : tProcess.R w B [.slice A0 x.Space.Images.length c0, .slice A1 x.Space.Bases.length c1, .slice A2 x.Space.Entries.length c2, .slice A3 x.Threads.length c3, .int .i64 x.Turn, .int .i64 x.Left, .int .i64 x.Slice] x) : (tImage.sl 103).R w B [.slice A0 x.Space.Images.length c0] x.Space.Images ∧ (intT.sl 3).R w B [.slice A1 x.Space.Bases.length c1] x.Space.Bases ∧ (intT.sl 3).R w B [.slice A2 x.Space.Entries.length c2] x.Space.Entries ∧ (tMachine.sl 80).R w B [.slice A3 x.Threads.length c3] x.Threads ∧ I64 x.Turn ∧ I64 x.Left ∧ I64 x.Slice := by
  obtain ⟨A0', c0', A1', c1', A2', c2', A3', c3', hc, f0, f1, f2, f3, f4, f5, f6⟩ := tProcess_R h
  simp only [List.cons.injEq, Value.slice.injEq, true_and, and_true] at hc
  obtain ⟨⟨rfl, rfl⟩, ⟨rfl, rfl⟩, ⟨rfl, rfl⟩, ⟨rfl, rfl⟩⟩ := hc
  exact ⟨f0, f1, f2, f3, f4, f5, f6⟩
set_option maxRecDepth 100000 in
set_option maxHeartbeats 4000000 in
theorem walk (w : World) (cs_s : Array Value) (s : DSpace) (h_s : tSpace.R w w.heap.size cs_s.toList s) (th : Int) (hb1_th : -9223372036854775808 ≤ th) (hb2_th : th ≤ 9223372036854775807) (sl : Int) (hb1_sl : -9223372036854775808 ≤ sl) (hb2_sl : sl ≤ 9223372036854775807) :
    Calls Try.prog 5 #[.agg cs_s, .int .i64 th, .int .i64 sl] w fun e w' => e = .returned (.bool true) ∧ Gro w w' := by
  obtain ⟨A0, c0, A1, c1, A2, c2, hcs_s, p_s0, p_s1, p_s2⟩ := tSpace_R h_s
  obtain rfl := Array.toList_inj.1 (show cs_s.toList = (#[.slice A0 s.Images.length c0, .slice A1 s.Bases.length c1, .slice A2 s.Entries.length c2] : Array Value).toList from hcs_s)
  clear h_s hcs_s
  obtain ⟨n0, hn0⟩ : ∃ n, szSpace s = n := ⟨_, rfl⟩
  by_cases hz0 : (n0 : Int) ≤ 1048576
  case neg =>
    have e0 : szRes (1048576) (szSpace s) = -1 := by rw [hn0]; exact if_neg (by omega)
    clear hn0
    go_enter Try.func5, Try.ntmps5
    go_wp2_with (fail)
    refine (szSpace_l (x := s) (Ty.up _ p_s0 (by repeat (first | with_reducible exact Gro.refl _ | with_reducible exact Gro.refl_drew _ _ _ | with_reducible exact Gro.refl_drewN _ _ _ _ | assumption | with_reducible apply Gro.more | with_reducible apply Gro.alloc | with_reducible apply Gro.drew | with_reducible apply Gro.drewN))) (Ty.up _ p_s1 (by repeat (first | with_reducible exact Gro.refl _ | with_reducible exact Gro.refl_drew _ _ _ | with_reducible exact Gro.refl_drewN _ _ _ _ | assumption | with_reducible apply Gro.more | with_reducible apply Gro.alloc | with_reducible apply Gro.drew | with_reducible apply Gro.drewN))) (Ty.up _ p_s2 (by repeat (first | with_reducible exact Gro.refl _ | with_reducible exact Gro.refl_drew _ _ _ | with_reducible exact Gro.refl_drewN _ _ _ _ | assumption | with_reducible apply Gro.more | with_reducible apply Gro.alloc | with_reducible apply Gro.drew | with_reducible apply Gro.drewN))) (by omega) (by omega)).mono ?_
    rintro e w1 ⟨rfl, os0, d0, rfl⟩
    go_wp2
    go_ret
    exact ⟨rfl, (by repeat (first | with_reducible exact Gro.refl _ | with_reducible exact Gro.refl_drew _ _ _ | with_reducible exact Gro.refl_drewN _ _ _ _ | assumption | with_reducible apply Gro.more | with_reducible apply Gro.alloc | with_reducible apply Gro.drew | with_reducible apply Gro.drewN))⟩
  have e0 : szRes (1048576) (szSpace s) = 1048576 - (n0 : Int) := by rw [hn0]; exact if_pos (by omega)
  have hl_s0 : s.Images.length ≤ 1048576 := by have h := hn0; unfold szSpace at h; have := szL_len szImage s.Images; omega
  have hl_s1 : s.Bases.length ≤ 1048576 := by have h := hn0; unfold szSpace at h; omega
  have hl_s2 : s.Entries.length ≤ 1048576 := by have h := hn0; unfold szSpace at h; omega
  have hs_s : szSpace s ≤ 1048576 := by omega
  have hcnt_s : cntSpace s ≤ 8388608 := by have := cntSpace_sz s; omega
  have HN0 := Lib.hid hn0
  clear hn0
  obtain ⟨p, hp, hpb0, hpb1, hpb2⟩ : ∃ p, Hid (newProc s th sl = p) ∧ szProcess p.1 ≤ 1052180 ∧ cntProcess p.1 ≤ 5260900 ∧ p.1.Space.Images.length ≤ 1052180 ∧ p.1.Space.Bases.length ≤ 1052180 ∧ p.1.Space.Entries.length ≤ 1052180 ∧ p.1.Threads.length ≤ 1052180 := ⟨_, Lib.hid rfl, by have := newProc_sz s th sl; omega, by have := newProc_sz s th sl; have := cntProcess_sz (newProc s th sl).1; omega, by have := newProc_sz s th sl; have := process_lens (newProc s th sl).1; omega⟩
  go_enter Try.func5, Try.ntmps5
  go_wp2_with (fail)
  refine (szSpace_l (x := s) (Ty.up _ p_s0 (by repeat (first | with_reducible exact Gro.refl _ | with_reducible exact Gro.refl_drew _ _ _ | with_reducible exact Gro.refl_drewN _ _ _ _ | assumption | with_reducible apply Gro.more | with_reducible apply Gro.alloc | with_reducible apply Gro.drew | with_reducible apply Gro.drewN))) (Ty.up _ p_s1 (by repeat (first | with_reducible exact Gro.refl _ | with_reducible exact Gro.refl_drew _ _ _ | with_reducible exact Gro.refl_drewN _ _ _ _ | assumption | with_reducible apply Gro.more | with_reducible apply Gro.alloc | with_reducible apply Gro.drew | with_reducible apply Gro.drewN))) (Ty.up _ p_s2 (by repeat (first | with_reducible exact Gro.refl _ | with_reducible exact Gro.refl_drew _ _ _ | with_reducible exact Gro.refl_drewN _ _ _ _ | assumption | with_reducible apply Gro.more | with_reducible apply Gro.alloc | with_reducible apply Gro.drew | with_reducible apply Gro.drewN))) (by omega) (by omega)).mono ?_
  rintro e w1 ⟨rfl, os0, d0, rfl⟩
  go_wp2_with (fail)
  refine (toSpace_l (x := s) (Ty.up _ p_s0 (by repeat (first | with_reducible exact Gro.refl _ | with_reducible exact Gro.refl_drew _ _ _ | with_reducible exact Gro.refl_drewN _ _ _ _ | assumption | with_reducible apply Gro.more | with_reducible apply Gro.alloc | with_reducible apply Gro.drew | with_reducible apply Gro.drewN))) (Ty.up _ p_s1 (by repeat (first | with_reducible exact Gro.refl _ | with_reducible exact Gro.refl_drew _ _ _ | with_reducible exact Gro.refl_drewN _ _ _ _ | assumption | with_reducible apply Gro.more | with_reducible apply Gro.alloc | with_reducible apply Gro.drew | with_reducible apply Gro.drewN))) (Ty.up _ p_s2 (by repeat (first | with_reducible exact Gro.refl _ | with_reducible exact Gro.refl_drew _ _ _ | with_reducible exact Gro.refl_drewN _ _ _ _ | assumption | with_reducible apply Gro.more | with_reducible apply Gro.alloc | with_reducible apply Gro.drew | with_reducible apply Gro.drewN))) (by omega)).mono ?_
  rintro e w1 ⟨A2_0, c2_0, A2_1, c2_1, A2_2, c2_2, rfl, hF2, os2, d2, rfl⟩
  go_wp2_with (fail)
  refine (newProc_s (s := s) (Ty.up _ (rdSpace hF2.read).1 (by repeat (first | with_reducible exact Gro.refl _ | with_reducible exact Gro.refl_drew _ _ _ | with_reducible exact Gro.refl_drewN _ _ _ _ | assumption | with_reducible apply Gro.more | with_reducible apply Gro.alloc | with_reducible apply Gro.drew | with_reducible apply Gro.drewN))) (Ty.up _ (rdSpace hF2.read).2.1 (by repeat (first | with_reducible exact Gro.refl _ | with_reducible exact Gro.refl_drew _ _ _ | with_reducible exact Gro.refl_drewN _ _ _ _ | assumption | with_reducible apply Gro.more | with_reducible apply Gro.alloc | with_reducible apply Gro.drew | with_reducible apply Gro.drewN))) (Ty.up _ (rdSpace hF2.read).2.2 (by repeat (first | with_reducible exact Gro.refl _ | with_reducible exact Gro.refl_drew _ _ _ | with_reducible exact Gro.refl_drewN _ _ _ _ | assumption | with_reducible apply Gro.more | with_reducible apply Gro.alloc | with_reducible apply Gro.drew | with_reducible apply Gro.drewN))) (by have := HN0.out; omega) ⟨hb1_th, hb2_th⟩ ⟨hb1_sl, hb2_sl⟩).mono ?_
  rw [hp.out]
  rintro e w1 ⟨B3_0, e3_0, B3_1, e3_1, B3_2, e3_2, B3_3, e3_3, rfl, hR3, os3, d3, rfl⟩
  go_wp2_with (fail)
  refine (toSpace_l (x := s) (Ty.up _ p_s0 (by repeat (first | with_reducible exact Gro.refl _ | with_reducible exact Gro.refl_drew _ _ _ | with_reducible exact Gro.refl_drewN _ _ _ _ | assumption | with_reducible apply Gro.more | with_reducible apply Gro.alloc | with_reducible apply Gro.drew | with_reducible apply Gro.drewN))) (Ty.up _ p_s1 (by repeat (first | with_reducible exact Gro.refl _ | with_reducible exact Gro.refl_drew _ _ _ | with_reducible exact Gro.refl_drewN _ _ _ _ | assumption | with_reducible apply Gro.more | with_reducible apply Gro.alloc | with_reducible apply Gro.drew | with_reducible apply Gro.drewN))) (Ty.up _ p_s2 (by repeat (first | with_reducible exact Gro.refl _ | with_reducible exact Gro.refl_drew _ _ _ | with_reducible exact Gro.refl_drewN _ _ _ _ | assumption | with_reducible apply Gro.more | with_reducible apply Gro.alloc | with_reducible apply Gro.drew | with_reducible apply Gro.drewN))) (by omega)).mono ?_
  rintro e w1 ⟨A4_0, c4_0, A4_1, c4_1, A4_2, c4_2, rfl, hF4, os4, d4, rfl⟩
  go_wp2_with (fail)
  refine (newProc_i (s := s) (Ty.up _ (rdSpace hF4.read).1 (by repeat (first | with_reducible exact Gro.refl _ | with_reducible exact Gro.refl_drew _ _ _ | with_reducible exact Gro.refl_drewN _ _ _ _ | assumption | with_reducible apply Gro.more | with_reducible apply Gro.alloc | with_reducible apply Gro.drew | with_reducible apply Gro.drewN))) (Ty.up _ (rdSpace hF4.read).2.1 (by repeat (first | with_reducible exact Gro.refl _ | with_reducible exact Gro.refl_drew _ _ _ | with_reducible exact Gro.refl_drewN _ _ _ _ | assumption | with_reducible apply Gro.more | with_reducible apply Gro.alloc | with_reducible apply Gro.drew | with_reducible apply Gro.drewN))) (Ty.up _ (rdSpace hF4.read).2.2 (by repeat (first | with_reducible exact Gro.refl _ | with_reducible exact Gro.refl_drew _ _ _ | with_reducible exact Gro.refl_drewN _ _ _ _ | assumption | with_reducible apply Gro.more | with_reducible apply Gro.alloc | with_reducible apply Gro.drew | with_reducible apply Gro.drewN))) (by have := HN0.out; omega) ⟨hb1_th, hb2_th⟩ ⟨hb1_sl, hb2_sl⟩).mono ?_
  rw [hp.out]
  rintro e w1 ⟨B5_0, e5_0, B5_1, e5_1, B5_2, e5_2, B5_3, e5_3, rfl, hR5, os5, d5, rfl⟩
  go_wp2_with (fail)
  refine (eqProcess_l (x := p.1) (y := p.1) (Ty.up _ (rdProcess hR5.read).1 (by repeat (first | with_reducible exact Gro.refl _ | with_reducible exact Gro.refl_drew _ _ _ | with_reducible exact Gro.refl_drewN _ _ _ _ | assumption | with_reducible apply Gro.more | with_reducible apply Gro.alloc | with_reducible apply Gro.drew | with_reducible apply Gro.drewN))) (Ty.up _ (rdProcess hR5.read).2.1 (by repeat (first | with_reducible exact Gro.refl _ | with_reducible exact Gro.refl_drew _ _ _ | with_reducible exact Gro.refl_drewN _ _ _ _ | assumption | with_reducible apply Gro.more | with_reducible apply Gro.alloc | with_reducible apply Gro.drew | with_reducible apply Gro.drewN))) (Ty.up _ (rdProcess hR5.read).2.2.1 (by repeat (first | with_reducible exact Gro.refl _ | with_reducible exact Gro.refl_drew _ _ _ | with_reducible exact Gro.refl_drewN _ _ _ _ | assumption | with_reducible apply Gro.more | with_reducible apply Gro.alloc | with_reducible apply Gro.drew | with_reducible apply Gro.drewN))) (Ty.up _ (rdProcess hR5.read).2.2.2.1 (by repeat (first | with_reducible exact Gro.refl _ | with_reducible exact Gro.refl_drew _ _ _ | with_reducible exact Gro.refl_drewN _ _ _ _ | assumption | with_reducible apply Gro.more | with_reducible apply Gro.alloc | with_reducible apply Gro.drew | with_reducible apply Gro.drewN))) (Ty.up _ (rdProcess hR3.read).1 (by repeat (first | with_reducible exact Gro.refl _ | with_reducible exact Gro.refl_drew _ _ _ | with_reducible exact Gro.refl_drewN _ _ _ _ | assumption | with_reducible apply Gro.more | with_reducible apply Gro.alloc | with_reducible apply Gro.drew | with_reducible apply Gro.drewN))) (Ty.up _ (rdProcess hR3.read).2.1 (by repeat (first | with_reducible exact Gro.refl _ | with_reducible exact Gro.refl_drew _ _ _ | with_reducible exact Gro.refl_drewN _ _ _ _ | assumption | with_reducible apply Gro.more | with_reducible apply Gro.alloc | with_reducible apply Gro.drew | with_reducible apply Gro.drewN))) (Ty.up _ (rdProcess hR3.read).2.2.1 (by repeat (first | with_reducible exact Gro.refl _ | with_reducible exact Gro.refl_drew _ _ _ | with_reducible exact Gro.refl_drewN _ _ _ _ | assumption | with_reducible apply Gro.more | with_reducible apply Gro.alloc | with_reducible apply Gro.drew | with_reducible apply Gro.drewN))) (Ty.up _ (rdProcess hR3.read).2.2.2.1 (by repeat (first | with_reducible exact Gro.refl _ | with_reducible exact Gro.refl_drew _ _ _ | with_reducible exact Gro.refl_drewN _ _ _ _ | assumption | with_reducible apply Gro.more | with_reducible apply Gro.alloc | with_reducible apply Gro.drew | with_reducible apply Gro.drewN)))).mono ?_
  rintro e w1 ⟨rfl, os6, d6, rfl⟩
  go_wp2_with (fail)
  go_region_held3 (fun w' => w'.cell? ⟨w.heap.size + 1 + os0.size + os2.size + os3.size + 1 + os4.size, 0, none⟩ = some (.slice A4_0 s.Images.length c4_0) ∧ w'.cell? ⟨w.heap.size + 1 + os0.size + os2.size + os3.size + 1 + os4.size, 1, none⟩ = some (.slice A4_1 s.Bases.length c4_1) ∧ w'.cell? ⟨w.heap.size + 1 + os0.size + os2.size + os3.size + 1 + os4.size, 2, none⟩ = some (.slice A4_2 s.Entries.length c4_2) ∧ w'.cell? ⟨w.heap.size, 0, none⟩ = some (.slice A0 s.Images.length c0) ∧ w'.cell? ⟨w.heap.size, 1, none⟩ = some (.slice A1 s.Bases.length c1) ∧ w'.cell? ⟨w.heap.size, 2, none⟩ = some (.slice A2 s.Entries.length c2)) (simp [go_sem]) (first
      | (go_at_call 19; refine (toSpace_l (x := s) (Ty.up _ p_s0 (by repeat (first | with_reducible exact Gro.refl _ | with_reducible exact Gro.refl_drew _ _ _ | with_reducible exact Gro.refl_drewN _ _ _ _ | assumption | with_reducible apply Gro.more | with_reducible apply Gro.alloc | with_reducible apply Gro.drew | with_reducible apply Gro.drewN))) (Ty.up _ p_s1 (by repeat (first | with_reducible exact Gro.refl _ | with_reducible exact Gro.refl_drew _ _ _ | with_reducible exact Gro.refl_drewN _ _ _ _ | assumption | with_reducible apply Gro.more | with_reducible apply Gro.alloc | with_reducible apply Gro.drew | with_reducible apply Gro.drewN))) (Ty.up _ p_s2 (by repeat (first | with_reducible exact Gro.refl _ | with_reducible exact Gro.refl_drew _ _ _ | with_reducible exact Gro.refl_drewN _ _ _ _ | assumption | with_reducible apply Gro.more | with_reducible apply Gro.alloc | with_reducible apply Gro.drew | with_reducible apply Gro.drewN))) (by omega)).mono ?_; rintro e w1 ⟨A7_0, c7_0, A7_1, c7_1, A7_2, c7_2, rfl, hF7, os7, d7, rfl⟩)
      | (go_at_call 21; refine (eqSpace_l (x := s) (y := s) (Ty.up _ (rdSpace hF4.read).1 (by repeat (first | with_reducible exact Gro.refl _ | with_reducible exact Gro.refl_drew _ _ _ | with_reducible exact Gro.refl_drewN _ _ _ _ | assumption | with_reducible apply Gro.more | with_reducible apply Gro.alloc | with_reducible apply Gro.drew | with_reducible apply Gro.drewN))) (Ty.up _ (rdSpace hF4.read).2.1 (by repeat (first | with_reducible exact Gro.refl _ | with_reducible exact Gro.refl_drew _ _ _ | with_reducible exact Gro.refl_drewN _ _ _ _ | assumption | with_reducible apply Gro.more | with_reducible apply Gro.alloc | with_reducible apply Gro.drew | with_reducible apply Gro.drewN))) (Ty.up _ (rdSpace hF4.read).2.2 (by repeat (first | with_reducible exact Gro.refl _ | with_reducible exact Gro.refl_drew _ _ _ | with_reducible exact Gro.refl_drewN _ _ _ _ | assumption | with_reducible apply Gro.more | with_reducible apply Gro.alloc | with_reducible apply Gro.drew | with_reducible apply Gro.drewN))) (Ty.up _ (rdSpace hF7.read).1 (by repeat (first | with_reducible exact Gro.refl _ | with_reducible exact Gro.refl_drew _ _ _ | with_reducible exact Gro.refl_drewN _ _ _ _ | assumption | with_reducible apply Gro.more | with_reducible apply Gro.alloc | with_reducible apply Gro.drew | with_reducible apply Gro.drewN))) (Ty.up _ (rdSpace hF7.read).2.1 (by repeat (first | with_reducible exact Gro.refl _ | with_reducible exact Gro.refl_drew _ _ _ | with_reducible exact Gro.refl_drewN _ _ _ _ | assumption | with_reducible apply Gro.more | with_reducible apply Gro.alloc | with_reducible apply Gro.drew | with_reducible apply Gro.drewN))) (Ty.up _ (rdSpace hF7.read).2.2 (by repeat (first | with_reducible exact Gro.refl _ | with_reducible exact Gro.refl_drew _ _ _ | with_reducible exact Gro.refl_drewN _ _ _ _ | assumption | with_reducible apply Gro.more | with_reducible apply Gro.alloc | with_reducible apply Gro.drew | with_reducible apply Gro.drewN)))).mono ?_; rintro e w1 ⟨rfl, os8, d8, rfl⟩))
  go_wp2_with (fail)
  obtain ⟨S_w0, hO_w0, hN_w0, hL_w0⟩ := hR3
  have hU_w0 := Ty.ltO _ hO_w0
  obtain ⟨S_x_s, hO_x_s, hN_x_s, hL_x_s⟩ := hF4
  have hU_x_s := Ty.ltO _ hO_x_s
  obtain ⟨S_g0, hO_g0, hN_g0, hL_g0⟩ := hR5
  have hU_g0 := Ty.ltO _ hO_g0
  go_wp2_with (fail)
  refine (markSpace_l (x := s) (Ty.groO _ hO_x_s (by repeat (first | with_reducible exact Gro.refl _ | with_reducible exact Gro.refl_drew _ _ _ | with_reducible exact Gro.refl_drewN _ _ _ _ | assumption | with_reducible apply Gro.more | with_reducible apply Gro.alloc | with_reducible apply Gro.drew | with_reducible apply Gro.drewN))) hN_x_s (by omega) (by omega)).mono ?_
  rintro e w9 ⟨rfl, hM_x_s, hS9⟩
  have hO_w0_9 := keepOnly _ hO_w0 hS9 (by repeat (first | with_reducible exact Gro.refl _ | with_reducible exact Gro.refl_drew _ _ _ | with_reducible exact Gro.refl_drewN _ _ _ _ | assumption | with_reducible apply Gro.more | with_reducible apply Gro.alloc | with_reducible apply Gro.drew | with_reducible apply Gro.drewN)) (fun b hb hm => by have q1 := hU_w0 b hb; have q2 := hL_x_s b hm; simp at q1 q2; omega)
  have hO_g0_9 := keepOnly _ hO_g0 hS9 (by repeat (first | with_reducible exact Gro.refl _ | with_reducible exact Gro.refl_drew _ _ _ | with_reducible exact Gro.refl_drewN _ _ _ _ | assumption | with_reducible apply Gro.more | with_reducible apply Gro.alloc | with_reducible apply Gro.drew | with_reducible apply Gro.drewN)) (fun b hb hm => by have q1 := hL_g0 b hb; have q2 := hU_x_s b hm; simp at q1 q2; omega)
  have hc9_s_0 : w9.cell? ⟨w.heap.size, 0, none⟩ = some (.slice A0 s.Images.length c0) := (hS9.cell (by simp <;> omega) (fun hm => by have q1 := hL_x_s _ hm; simp at q1 <;> omega) 0).trans (by simp [go_sem])
  have hc9_s_1 : w9.cell? ⟨w.heap.size, 1, none⟩ = some (.slice A1 s.Bases.length c1) := (hS9.cell (by simp <;> omega) (fun hm => by have q1 := hL_x_s _ hm; simp at q1 <;> omega) 1).trans (by simp [go_sem])
  have hc9_s_2 : w9.cell? ⟨w.heap.size, 2, none⟩ = some (.slice A2 s.Entries.length c2) := (hS9.cell (by simp <;> omega) (fun hm => by have q1 := hL_x_s _ hm; simp at q1 <;> omega) 2).trans (by simp [go_sem])
  have hcb_s : w.heap.size < w9.heap.size := Nat.lt_of_lt_of_le (by simp <;> omega) hS9.size
  have hc9_w0_0 : w9.cell? ⟨w.heap.size + 1 + os0.size + os2.size + os3.size, 0, none⟩ = some (.slice B3_0 p.1.Space.Images.length e3_0) := (hS9.cell (by simp <;> omega) (fun hm => by have q1 := hL_x_s _ hm; simp at q1 <;> omega) 0).trans (by simp [go_sem])
  have hc9_w0_1 : w9.cell? ⟨w.heap.size + 1 + os0.size + os2.size + os3.size, 1, none⟩ = some (.slice B3_1 p.1.Space.Bases.length e3_1) := (hS9.cell (by simp <;> omega) (fun hm => by have q1 := hL_x_s _ hm; simp at q1 <;> omega) 1).trans (by simp [go_sem])
  have hc9_w0_2 : w9.cell? ⟨w.heap.size + 1 + os0.size + os2.size + os3.size, 2, none⟩ = some (.slice B3_2 p.1.Space.Entries.length e3_2) := (hS9.cell (by simp <;> omega) (fun hm => by have q1 := hL_x_s _ hm; simp at q1 <;> omega) 2).trans (by simp [go_sem])
  have hc9_w0_3 : w9.cell? ⟨w.heap.size + 1 + os0.size + os2.size + os3.size, 3, none⟩ = some (.slice B3_3 p.1.Threads.length e3_3) := (hS9.cell (by simp <;> omega) (fun hm => by have q1 := hL_x_s _ hm; simp at q1 <;> omega) 3).trans (by simp [go_sem])
  have hc9_w0_4 : w9.cell? ⟨w.heap.size + 1 + os0.size + os2.size + os3.size, 4, none⟩ = some (.int .i64 p.1.Turn) := (hS9.cell (by simp <;> omega) (fun hm => by have q1 := hL_x_s _ hm; simp at q1 <;> omega) 4).trans (by simp [go_sem])
  have hc9_w0_5 : w9.cell? ⟨w.heap.size + 1 + os0.size + os2.size + os3.size, 5, none⟩ = some (.int .i64 p.1.Left) := (hS9.cell (by simp <;> omega) (fun hm => by have q1 := hL_x_s _ hm; simp at q1 <;> omega) 5).trans (by simp [go_sem])
  have hc9_w0_6 : w9.cell? ⟨w.heap.size + 1 + os0.size + os2.size + os3.size, 6, none⟩ = some (.int .i64 p.1.Slice) := (hS9.cell (by simp <;> omega) (fun hm => by have q1 := hL_x_s _ hm; simp at q1 <;> omega) 6).trans (by simp [go_sem])
  have hcb_w0 : w.heap.size + 1 + os0.size + os2.size + os3.size < w9.heap.size := Nat.lt_of_lt_of_le (by simp <;> omega) hS9.size
  have hc9_g0_0 : w9.cell? ⟨w.heap.size + 1 + os0.size + os2.size + os3.size + 1 + os4.size + 1 + os5.size, 0, none⟩ = some (.slice B5_0 p.1.Space.Images.length e5_0) := (hS9.cell (by simp <;> omega) (fun hm => by have q1 := hU_x_s _ hm; simp at q1 <;> omega) 0).trans (by simp [go_sem])
  have hc9_g0_1 : w9.cell? ⟨w.heap.size + 1 + os0.size + os2.size + os3.size + 1 + os4.size + 1 + os5.size, 1, none⟩ = some (.slice B5_1 p.1.Space.Bases.length e5_1) := (hS9.cell (by simp <;> omega) (fun hm => by have q1 := hU_x_s _ hm; simp at q1 <;> omega) 1).trans (by simp [go_sem])
  have hc9_g0_2 : w9.cell? ⟨w.heap.size + 1 + os0.size + os2.size + os3.size + 1 + os4.size + 1 + os5.size, 2, none⟩ = some (.slice B5_2 p.1.Space.Entries.length e5_2) := (hS9.cell (by simp <;> omega) (fun hm => by have q1 := hU_x_s _ hm; simp at q1 <;> omega) 2).trans (by simp [go_sem])
  have hc9_g0_3 : w9.cell? ⟨w.heap.size + 1 + os0.size + os2.size + os3.size + 1 + os4.size + 1 + os5.size, 3, none⟩ = some (.slice B5_3 p.1.Threads.length e5_3) := (hS9.cell (by simp <;> omega) (fun hm => by have q1 := hU_x_s _ hm; simp at q1 <;> omega) 3).trans (by simp [go_sem])
  have hc9_g0_4 : w9.cell? ⟨w.heap.size + 1 + os0.size + os2.size + os3.size + 1 + os4.size + 1 + os5.size, 4, none⟩ = some (.int .i64 p.1.Turn) := (hS9.cell (by simp <;> omega) (fun hm => by have q1 := hU_x_s _ hm; simp at q1 <;> omega) 4).trans (by simp [go_sem])
  have hc9_g0_5 : w9.cell? ⟨w.heap.size + 1 + os0.size + os2.size + os3.size + 1 + os4.size + 1 + os5.size, 5, none⟩ = some (.int .i64 p.1.Left) := (hS9.cell (by simp <;> omega) (fun hm => by have q1 := hU_x_s _ hm; simp at q1 <;> omega) 5).trans (by simp [go_sem])
  have hc9_g0_6 : w9.cell? ⟨w.heap.size + 1 + os0.size + os2.size + os3.size + 1 + os4.size + 1 + os5.size, 6, none⟩ = some (.int .i64 p.1.Slice) := (hS9.cell (by simp <;> omega) (fun hm => by have q1 := hU_x_s _ hm; simp at q1 <;> omega) 6).trans (by simp [go_sem])
  have hcb_g0 : w.heap.size + 1 + os0.size + os2.size + os3.size + 1 + os4.size + 1 + os5.size < w9.heap.size := Nat.lt_of_lt_of_le (by simp <;> omega) hS9.size
  obtain ⟨os9, d9, rfl⟩ := hS9.gro (W0 := w) (by repeat (first | with_reducible exact Gro.refl _ | with_reducible exact Gro.refl_drew _ _ _ | with_reducible exact Gro.refl_drewN _ _ _ _ | assumption | with_reducible apply Gro.more | with_reducible apply Gro.alloc | with_reducible apply Gro.drew | with_reducible apply Gro.drewN)) (fun b hb => by have q1 := hL_x_s b hb; simp at q1; omega)
  clear hS9
  simp at hcb_s
  simp at hcb_w0
  simp at hcb_g0
  go_wp2_with (fail)
  refine (eqProcess_l (x := p.1) (y := p.1) (Ty.up _ (rdProcess (Ty.read _ hO_g0_9)).1 (by repeat (first | with_reducible exact Gro.refl _ | with_reducible exact Gro.refl_drew _ _ _ | with_reducible exact Gro.refl_drewN _ _ _ _ | assumption | with_reducible apply Gro.more | with_reducible apply Gro.alloc | with_reducible apply Gro.drew | with_reducible apply Gro.drewN))) (Ty.up _ (rdProcess (Ty.read _ hO_g0_9)).2.1 (by repeat (first | with_reducible exact Gro.refl _ | with_reducible exact Gro.refl_drew _ _ _ | with_reducible exact Gro.refl_drewN _ _ _ _ | assumption | with_reducible apply Gro.more | with_reducible apply Gro.alloc | with_reducible apply Gro.drew | with_reducible apply Gro.drewN))) (Ty.up _ (rdProcess (Ty.read _ hO_g0_9)).2.2.1 (by repeat (first | with_reducible exact Gro.refl _ | with_reducible exact Gro.refl_drew _ _ _ | with_reducible exact Gro.refl_drewN _ _ _ _ | assumption | with_reducible apply Gro.more | with_reducible apply Gro.alloc | with_reducible apply Gro.drew | with_reducible apply Gro.drewN))) (Ty.up _ (rdProcess (Ty.read _ hO_g0_9)).2.2.2.1 (by repeat (first | with_reducible exact Gro.refl _ | with_reducible exact Gro.refl_drew _ _ _ | with_reducible exact Gro.refl_drewN _ _ _ _ | assumption | with_reducible apply Gro.more | with_reducible apply Gro.alloc | with_reducible apply Gro.drew | with_reducible apply Gro.drewN))) (Ty.up _ (rdProcess (Ty.read _ hO_w0_9)).1 (by repeat (first | with_reducible exact Gro.refl _ | with_reducible exact Gro.refl_drew _ _ _ | with_reducible exact Gro.refl_drewN _ _ _ _ | assumption | with_reducible apply Gro.more | with_reducible apply Gro.alloc | with_reducible apply Gro.drew | with_reducible apply Gro.drewN))) (Ty.up _ (rdProcess (Ty.read _ hO_w0_9)).2.1 (by repeat (first | with_reducible exact Gro.refl _ | with_reducible exact Gro.refl_drew _ _ _ | with_reducible exact Gro.refl_drewN _ _ _ _ | assumption | with_reducible apply Gro.more | with_reducible apply Gro.alloc | with_reducible apply Gro.drew | with_reducible apply Gro.drewN))) (Ty.up _ (rdProcess (Ty.read _ hO_w0_9)).2.2.1 (by repeat (first | with_reducible exact Gro.refl _ | with_reducible exact Gro.refl_drew _ _ _ | with_reducible exact Gro.refl_drewN _ _ _ _ | assumption | with_reducible apply Gro.more | with_reducible apply Gro.alloc | with_reducible apply Gro.drew | with_reducible apply Gro.drewN))) (Ty.up _ (rdProcess (Ty.read _ hO_w0_9)).2.2.2.1 (by repeat (first | with_reducible exact Gro.refl _ | with_reducible exact Gro.refl_drew _ _ _ | with_reducible exact Gro.refl_drewN _ _ _ _ | assumption | with_reducible apply Gro.more | with_reducible apply Gro.alloc | with_reducible apply Gro.drew | with_reducible apply Gro.drewN)))).mono ?_
  rintro e w1 ⟨rfl, os10, d10, rfl⟩
  go_wp2_with (fail)
  refine (markProcess_l (x := p.1) (Ty.groO _ hO_g0_9 (by repeat (first | with_reducible exact Gro.refl _ | with_reducible exact Gro.refl_drew _ _ _ | with_reducible exact Gro.refl_drewN _ _ _ _ | assumption | with_reducible apply Gro.more | with_reducible apply Gro.alloc | with_reducible apply Gro.drew | with_reducible apply Gro.drewN))) hN_g0 (by omega) (by omega)).mono ?_
  rintro e w11 ⟨rfl, hM_g0, hS11⟩
  have hO_w0_9_11 := keepOnly _ hO_w0_9 hS11 (by repeat (first | with_reducible exact Gro.refl _ | with_reducible exact Gro.refl_drew _ _ _ | with_reducible exact Gro.refl_drewN _ _ _ _ | assumption | with_reducible apply Gro.more | with_reducible apply Gro.alloc | with_reducible apply Gro.drew | with_reducible apply Gro.drewN)) (fun b hb hm => by have q1 := hU_w0 b hb; have q2 := hL_g0 b hm; simp at q1 q2; omega)
  have hc11_s_0 : w11.cell? ⟨w.heap.size, 0, none⟩ = some (.slice A0 s.Images.length c0) := (hS11.cell (by simp <;> omega) (fun hm => by have q1 := hL_g0 _ hm; simp at q1 <;> omega) 0).trans (by first | exact hc9_s_0 | exact gro_keeps hc9_s_0 _ _ | simp [go_sem, hc9_s_0, hcb_s])
  have hc11_s_1 : w11.cell? ⟨w.heap.size, 1, none⟩ = some (.slice A1 s.Bases.length c1) := (hS11.cell (by simp <;> omega) (fun hm => by have q1 := hL_g0 _ hm; simp at q1 <;> omega) 1).trans (by first | exact hc9_s_1 | exact gro_keeps hc9_s_1 _ _ | simp [go_sem, hc9_s_1, hcb_s])
  have hc11_s_2 : w11.cell? ⟨w.heap.size, 2, none⟩ = some (.slice A2 s.Entries.length c2) := (hS11.cell (by simp <;> omega) (fun hm => by have q1 := hL_g0 _ hm; simp at q1 <;> omega) 2).trans (by first | exact hc9_s_2 | exact gro_keeps hc9_s_2 _ _ | simp [go_sem, hc9_s_2, hcb_s])
  replace hcb_s : w.heap.size < w11.heap.size := Nat.lt_of_lt_of_le (by simp <;> omega) hS11.size
  have hc11_w0_0 : w11.cell? ⟨w.heap.size + 1 + os0.size + os2.size + os3.size, 0, none⟩ = some (.slice B3_0 p.1.Space.Images.length e3_0) := (hS11.cell (by simp <;> omega) (fun hm => by have q1 := hL_g0 _ hm; simp at q1 <;> omega) 0).trans (by first | exact hc9_w0_0 | exact gro_keeps hc9_w0_0 _ _ | simp [go_sem, hc9_w0_0, hcb_w0])
  have hc11_w0_1 : w11.cell? ⟨w.heap.size + 1 + os0.size + os2.size + os3.size, 1, none⟩ = some (.slice B3_1 p.1.Space.Bases.length e3_1) := (hS11.cell (by simp <;> omega) (fun hm => by have q1 := hL_g0 _ hm; simp at q1 <;> omega) 1).trans (by first | exact hc9_w0_1 | exact gro_keeps hc9_w0_1 _ _ | simp [go_sem, hc9_w0_1, hcb_w0])
  have hc11_w0_2 : w11.cell? ⟨w.heap.size + 1 + os0.size + os2.size + os3.size, 2, none⟩ = some (.slice B3_2 p.1.Space.Entries.length e3_2) := (hS11.cell (by simp <;> omega) (fun hm => by have q1 := hL_g0 _ hm; simp at q1 <;> omega) 2).trans (by first | exact hc9_w0_2 | exact gro_keeps hc9_w0_2 _ _ | simp [go_sem, hc9_w0_2, hcb_w0])
  have hc11_w0_3 : w11.cell? ⟨w.heap.size + 1 + os0.size + os2.size + os3.size, 3, none⟩ = some (.slice B3_3 p.1.Threads.length e3_3) := (hS11.cell (by simp <;> omega) (fun hm => by have q1 := hL_g0 _ hm; simp at q1 <;> omega) 3).trans (by first | exact hc9_w0_3 | exact gro_keeps hc9_w0_3 _ _ | simp [go_sem, hc9_w0_3, hcb_w0])
  have hc11_w0_4 : w11.cell? ⟨w.heap.size + 1 + os0.size + os2.size + os3.size, 4, none⟩ = some (.int .i64 p.1.Turn) := (hS11.cell (by simp <;> omega) (fun hm => by have q1 := hL_g0 _ hm; simp at q1 <;> omega) 4).trans (by first | exact hc9_w0_4 | exact gro_keeps hc9_w0_4 _ _ | simp [go_sem, hc9_w0_4, hcb_w0])
  have hc11_w0_5 : w11.cell? ⟨w.heap.size + 1 + os0.size + os2.size + os3.size, 5, none⟩ = some (.int .i64 p.1.Left) := (hS11.cell (by simp <;> omega) (fun hm => by have q1 := hL_g0 _ hm; simp at q1 <;> omega) 5).trans (by first | exact hc9_w0_5 | exact gro_keeps hc9_w0_5 _ _ | simp [go_sem, hc9_w0_5, hcb_w0])
  have hc11_w0_6 : w11.cell? ⟨w.heap.size + 1 + os0.size + os2.size + os3.size, 6, none⟩ = some (.int .i64 p.1.Slice) := (hS11.cell (by simp <;> omega) (fun hm => by have q1 := hL_g0 _ hm; simp at q1 <;> omega) 6).trans (by first | exact hc9_w0_6 | exact gro_keeps hc9_w0_6 _ _ | simp [go_sem, hc9_w0_6, hcb_w0])
  replace hcb_w0 : w.heap.size + 1 + os0.size + os2.size + os3.size < w11.heap.size := Nat.lt_of_lt_of_le (by simp <;> omega) hS11.size
  have hc11_g0_0 : w11.cell? ⟨w.heap.size + 1 + os0.size + os2.size + os3.size + 1 + os4.size + 1 + os5.size, 0, none⟩ = some (.slice B5_0 p.1.Space.Images.length e5_0) := (hS11.cell (by simp <;> omega) (fun hm => by have q1 := hU_g0 _ hm; simp at q1 <;> omega) 0).trans (by first | exact hc9_g0_0 | exact gro_keeps hc9_g0_0 _ _ | simp [go_sem, hc9_g0_0, hcb_g0])
  have hc11_g0_1 : w11.cell? ⟨w.heap.size + 1 + os0.size + os2.size + os3.size + 1 + os4.size + 1 + os5.size, 1, none⟩ = some (.slice B5_1 p.1.Space.Bases.length e5_1) := (hS11.cell (by simp <;> omega) (fun hm => by have q1 := hU_g0 _ hm; simp at q1 <;> omega) 1).trans (by first | exact hc9_g0_1 | exact gro_keeps hc9_g0_1 _ _ | simp [go_sem, hc9_g0_1, hcb_g0])
  have hc11_g0_2 : w11.cell? ⟨w.heap.size + 1 + os0.size + os2.size + os3.size + 1 + os4.size + 1 + os5.size, 2, none⟩ = some (.slice B5_2 p.1.Space.Entries.length e5_2) := (hS11.cell (by simp <;> omega) (fun hm => by have q1 := hU_g0 _ hm; simp at q1 <;> omega) 2).trans (by first | exact hc9_g0_2 | exact gro_keeps hc9_g0_2 _ _ | simp [go_sem, hc9_g0_2, hcb_g0])
  have hc11_g0_3 : w11.cell? ⟨w.heap.size + 1 + os0.size + os2.size + os3.size + 1 + os4.size + 1 + os5.size, 3, none⟩ = some (.slice B5_3 p.1.Threads.length e5_3) := (hS11.cell (by simp <;> omega) (fun hm => by have q1 := hU_g0 _ hm; simp at q1 <;> omega) 3).trans (by first | exact hc9_g0_3 | exact gro_keeps hc9_g0_3 _ _ | simp [go_sem, hc9_g0_3, hcb_g0])
  have hc11_g0_4 : w11.cell? ⟨w.heap.size + 1 + os0.size + os2.size + os3.size + 1 + os4.size + 1 + os5.size, 4, none⟩ = some (.int .i64 p.1.Turn) := (hS11.cell (by simp <;> omega) (fun hm => by have q1 := hU_g0 _ hm; simp at q1 <;> omega) 4).trans (by first | exact hc9_g0_4 | exact gro_keeps hc9_g0_4 _ _ | simp [go_sem, hc9_g0_4, hcb_g0])
  have hc11_g0_5 : w11.cell? ⟨w.heap.size + 1 + os0.size + os2.size + os3.size + 1 + os4.size + 1 + os5.size, 5, none⟩ = some (.int .i64 p.1.Left) := (hS11.cell (by simp <;> omega) (fun hm => by have q1 := hU_g0 _ hm; simp at q1 <;> omega) 5).trans (by first | exact hc9_g0_5 | exact gro_keeps hc9_g0_5 _ _ | simp [go_sem, hc9_g0_5, hcb_g0])
  have hc11_g0_6 : w11.cell? ⟨w.heap.size + 1 + os0.size + os2.size + os3.size + 1 + os4.size + 1 + os5.size, 6, none⟩ = some (.int .i64 p.1.Slice) := (hS11.cell (by simp <;> omega) (fun hm => by have q1 := hU_g0 _ hm; simp at q1 <;> omega) 6).trans (by first | exact hc9_g0_6 | exact gro_keeps hc9_g0_6 _ _ | simp [go_sem, hc9_g0_6, hcb_g0])
  replace hcb_g0 : w.heap.size + 1 + os0.size + os2.size + os3.size + 1 + os4.size + 1 + os5.size < w11.heap.size := Nat.lt_of_lt_of_le (by simp <;> omega) hS11.size
  clear hc9_s_0 hc9_s_1 hc9_s_2 hc9_w0_0 hc9_w0_1 hc9_w0_2 hc9_w0_3 hc9_w0_4 hc9_w0_5 hc9_w0_6 hc9_g0_0 hc9_g0_1 hc9_g0_2 hc9_g0_3 hc9_g0_4 hc9_g0_5 hc9_g0_6
  obtain ⟨os11, d11, rfl⟩ := hS11.gro (W0 := w) (by repeat (first | with_reducible exact Gro.refl _ | with_reducible exact Gro.refl_drew _ _ _ | with_reducible exact Gro.refl_drewN _ _ _ _ | assumption | with_reducible apply Gro.more | with_reducible apply Gro.alloc | with_reducible apply Gro.drew | with_reducible apply Gro.drewN)) (fun b hb => by have q1 := hL_g0 b hb; simp at q1; omega)
  clear hS11
  simp at hcb_s
  simp at hcb_w0
  simp at hcb_g0
  go_wp2_with (fail)
  refine (heldProcess_l (x := p.1) (Ty.up _ (mkProcess_read hM_g0).1 (by repeat (first | with_reducible exact Gro.refl _ | with_reducible exact Gro.refl_drew _ _ _ | with_reducible exact Gro.refl_drewN _ _ _ _ | assumption | with_reducible apply Gro.more | with_reducible apply Gro.alloc | with_reducible apply Gro.drew | with_reducible apply Gro.drewN))) (Ty.up _ (mkProcess_read hM_g0).2.1 (by repeat (first | with_reducible exact Gro.refl _ | with_reducible exact Gro.refl_drew _ _ _ | with_reducible exact Gro.refl_drewN _ _ _ _ | assumption | with_reducible apply Gro.more | with_reducible apply Gro.alloc | with_reducible apply Gro.drew | with_reducible apply Gro.drewN))) (Ty.up _ (mkProcess_read hM_g0).2.2.1 (by repeat (first | with_reducible exact Gro.refl _ | with_reducible exact Gro.refl_drew _ _ _ | with_reducible exact Gro.refl_drewN _ _ _ _ | assumption | with_reducible apply Gro.more | with_reducible apply Gro.alloc | with_reducible apply Gro.drew | with_reducible apply Gro.drewN))) (Ty.up _ (mkProcess_read hM_g0).2.2.2 (by repeat (first | with_reducible exact Gro.refl _ | with_reducible exact Gro.refl_drew _ _ _ | with_reducible exact Gro.refl_drewN _ _ _ _ | assumption | with_reducible apply Gro.more | with_reducible apply Gro.alloc | with_reducible apply Gro.drew | with_reducible apply Gro.drewN))) (by omega) (by omega)).mono ?_
  rintro e w1 ⟨rfl, os12, d12, rfl⟩
  go_wp2_with (fail)
  refine (toSpace_l (x := s) (Ty.up _ p_s0 (by repeat (first | with_reducible exact Gro.refl _ | with_reducible exact Gro.refl_drew _ _ _ | with_reducible exact Gro.refl_drewN _ _ _ _ | assumption | with_reducible apply Gro.more | with_reducible apply Gro.alloc | with_reducible apply Gro.drew | with_reducible apply Gro.drewN))) (Ty.up _ p_s1 (by repeat (first | with_reducible exact Gro.refl _ | with_reducible exact Gro.refl_drew _ _ _ | with_reducible exact Gro.refl_drewN _ _ _ _ | assumption | with_reducible apply Gro.more | with_reducible apply Gro.alloc | with_reducible apply Gro.drew | with_reducible apply Gro.drewN))) (Ty.up _ p_s2 (by repeat (first | with_reducible exact Gro.refl _ | with_reducible exact Gro.refl_drew _ _ _ | with_reducible exact Gro.refl_drewN _ _ _ _ | assumption | with_reducible apply Gro.more | with_reducible apply Gro.alloc | with_reducible apply Gro.drew | with_reducible apply Gro.drewN))) (by omega)).mono ?_
  rintro e w1 ⟨A13_0, c13_0, A13_1, c13_1, A13_2, c13_2, rfl, hF13, os13, d13, rfl⟩
  go_wp2_with (fail)
  refine (newProc_i (s := s) (Ty.up _ (rdSpace hF13.read).1 (by repeat (first | with_reducible exact Gro.refl _ | with_reducible exact Gro.refl_drew _ _ _ | with_reducible exact Gro.refl_drewN _ _ _ _ | assumption | with_reducible apply Gro.more | with_reducible apply Gro.alloc | with_reducible apply Gro.drew | with_reducible apply Gro.drewN))) (Ty.up _ (rdSpace hF13.read).2.1 (by repeat (first | with_reducible exact Gro.refl _ | with_reducible exact Gro.refl_drew _ _ _ | with_reducible exact Gro.refl_drewN _ _ _ _ | assumption | with_reducible apply Gro.more | with_reducible apply Gro.alloc | with_reducible apply Gro.drew | with_reducible apply Gro.drewN))) (Ty.up _ (rdSpace hF13.read).2.2 (by repeat (first | with_reducible exact Gro.refl _ | with_reducible exact Gro.refl_drew _ _ _ | with_reducible exact Gro.refl_drewN _ _ _ _ | assumption | with_reducible apply Gro.more | with_reducible apply Gro.alloc | with_reducible apply Gro.drew | with_reducible apply Gro.drewN))) (by have := HN0.out; omega) ⟨hb1_th, hb2_th⟩ ⟨hb1_sl, hb2_sl⟩).mono ?_
  rw [hp.out]
  rintro e w1 ⟨B14_0, e14_0, B14_1, e14_1, B14_2, e14_2, B14_3, e14_3, rfl, hR14, os14, d14, rfl⟩
  go_wp2_with (fail)
  refine (eqProcess_l (x := p.1) (y := p.1) (Ty.up _ (rdProcess hR14.read).1 (by repeat (first | with_reducible exact Gro.refl _ | with_reducible exact Gro.refl_drew _ _ _ | with_reducible exact Gro.refl_drewN _ _ _ _ | assumption | with_reducible apply Gro.more | with_reducible apply Gro.alloc | with_reducible apply Gro.drew | with_reducible apply Gro.drewN))) (Ty.up _ (rdProcess hR14.read).2.1 (by repeat (first | with_reducible exact Gro.refl _ | with_reducible exact Gro.refl_drew _ _ _ | with_reducible exact Gro.refl_drewN _ _ _ _ | assumption | with_reducible apply Gro.more | with_reducible apply Gro.alloc | with_reducible apply Gro.drew | with_reducible apply Gro.drewN))) (Ty.up _ (rdProcess hR14.read).2.2.1 (by repeat (first | with_reducible exact Gro.refl _ | with_reducible exact Gro.refl_drew _ _ _ | with_reducible exact Gro.refl_drewN _ _ _ _ | assumption | with_reducible apply Gro.more | with_reducible apply Gro.alloc | with_reducible apply Gro.drew | with_reducible apply Gro.drewN))) (Ty.up _ (rdProcess hR14.read).2.2.2.1 (by repeat (first | with_reducible exact Gro.refl _ | with_reducible exact Gro.refl_drew _ _ _ | with_reducible exact Gro.refl_drewN _ _ _ _ | assumption | with_reducible apply Gro.more | with_reducible apply Gro.alloc | with_reducible apply Gro.drew | with_reducible apply Gro.drewN))) (Ty.up _ (rdProcess (Ty.read _ hO_w0_9_11)).1 (by repeat (first | with_reducible exact Gro.refl _ | with_reducible exact Gro.refl_drew _ _ _ | with_reducible exact Gro.refl_drewN _ _ _ _ | assumption | with_reducible apply Gro.more | with_reducible apply Gro.alloc | with_reducible apply Gro.drew | with_reducible apply Gro.drewN))) (Ty.up _ (rdProcess (Ty.read _ hO_w0_9_11)).2.1 (by repeat (first | with_reducible exact Gro.refl _ | with_reducible exact Gro.refl_drew _ _ _ | with_reducible exact Gro.refl_drewN _ _ _ _ | assumption | with_reducible apply Gro.more | with_reducible apply Gro.alloc | with_reducible apply Gro.drew | with_reducible apply Gro.drewN))) (Ty.up _ (rdProcess (Ty.read _ hO_w0_9_11)).2.2.1 (by repeat (first | with_reducible exact Gro.refl _ | with_reducible exact Gro.refl_drew _ _ _ | with_reducible exact Gro.refl_drewN _ _ _ _ | assumption | with_reducible apply Gro.more | with_reducible apply Gro.alloc | with_reducible apply Gro.drew | with_reducible apply Gro.drewN))) (Ty.up _ (rdProcess (Ty.read _ hO_w0_9_11)).2.2.2.1 (by repeat (first | with_reducible exact Gro.refl _ | with_reducible exact Gro.refl_drew _ _ _ | with_reducible exact Gro.refl_drewN _ _ _ _ | assumption | with_reducible apply Gro.more | with_reducible apply Gro.alloc | with_reducible apply Gro.drew | with_reducible apply Gro.drewN)))).mono ?_
  rintro e w1 ⟨rfl, os15, d15, rfl⟩
  go_wp2_with (fail)
  refine (heldProcess_l (x := p.1) (Ty.up _ (mkProcess_read hM_g0).1 (by repeat (first | with_reducible exact Gro.refl _ | with_reducible exact Gro.refl_drew _ _ _ | with_reducible exact Gro.refl_drewN _ _ _ _ | assumption | with_reducible apply Gro.more | with_reducible apply Gro.alloc | with_reducible apply Gro.drew | with_reducible apply Gro.drewN))) (Ty.up _ (mkProcess_read hM_g0).2.1 (by repeat (first | with_reducible exact Gro.refl _ | with_reducible exact Gro.refl_drew _ _ _ | with_reducible exact Gro.refl_drewN _ _ _ _ | assumption | with_reducible apply Gro.more | with_reducible apply Gro.alloc | with_reducible apply Gro.drew | with_reducible apply Gro.drewN))) (Ty.up _ (mkProcess_read hM_g0).2.2.1 (by repeat (first | with_reducible exact Gro.refl _ | with_reducible exact Gro.refl_drew _ _ _ | with_reducible exact Gro.refl_drewN _ _ _ _ | assumption | with_reducible apply Gro.more | with_reducible apply Gro.alloc | with_reducible apply Gro.drew | with_reducible apply Gro.drewN))) (Ty.up _ (mkProcess_read hM_g0).2.2.2 (by repeat (first | with_reducible exact Gro.refl _ | with_reducible exact Gro.refl_drew _ _ _ | with_reducible exact Gro.refl_drewN _ _ _ _ | assumption | with_reducible apply Gro.more | with_reducible apply Gro.alloc | with_reducible apply Gro.drew | with_reducible apply Gro.drewN))) (by omega) (by omega)).mono ?_
  rintro e w1 ⟨rfl, os16, d16, rfl⟩
  go_wp2
  go_ret
  exact ⟨rfl, (by repeat (first | with_reducible exact Gro.refl _ | with_reducible exact Gro.refl_drew _ _ _ | with_reducible exact Gro.refl_drewN _ _ _ _ | assumption | with_reducible apply Gro.more | with_reducible apply Gro.alloc | with_reducible apply Gro.drew | with_reducible apply Gro.drewN))⟩

set_option maxRecDepth 100000 in
theorem lifted (os : Os) (started : os.Started) (H : Type) (enc : TypeId × Value → H) :
    ReturnsInHanded {} Try.checked os 5 .any (Rows.fnExactNewProcessSpec.pre6 enc Try.prog Try.f5 Rows.fnExactNewProcessRow.domain false) (Rows.fnExactNewProcessSpec.post enc Try.prog Try.f5 false true false false) := by
  refine returnsInHanded_of_change (C := Try.checked) own started (by kernel_rfl) Try.func5
    (ChangeSpec.witness6 (enc := enc) (C := Try.checked) false ⟨#[], #[.agg #[.slice none 0 0, .slice none 0 0, .slice none 0 0], .int .i64 0, .int .i64 0], []⟩ 8 (by kernel_rfl) (by kernel_rfl) (by kernel_rfl) (by kernel_rfl)) ?_
  intro W base args ds gs before hval0 hW hcnd _
  have hval : ∀ (j : Nat) t v, Try.f5.params[j]? = some t → args[j]? = some v → Value.okWide Try.prog W .any base t v := hval0
  have hW' := hW
  obtain ⟨p, q, hA0, hV, rfl, hfz, hnd⟩ := hW
  have hA : DataW.TrodAll enc Try.prog W 0 (fun _ => true) true Try.f5.params.toList args.toList ds p := hA0
  rw [Try.params5] at hA hval
  obtain ⟨v0, vs0, d0, ds0, p0, q0, hargs, rfl, rfl, h0, r0⟩ := trodAll_cons hA
  obtain ⟨v1, vs1, d1, ds1, p1, q1, rfl, rfl, rfl, h1, r1⟩ := trodAll_cons r0
  obtain ⟨v2, vs2, d2, ds2, p2, q2, rfl, rfl, rfl, h2, r2⟩ := trodAll_cons r1
  obtain ⟨rfl, rfl, rfl⟩ := trodAll_nil r2
  obtain rfl : args = #[v0, v1, v2] := by cases args; simp_all
  obtain ⟨rfl, rfl⟩ := trodVars_none hV
  have k0 := h0
  have lt0 : ∀ x ∈ p0, x.block < W.heap.size := by obtain ⟨m, hm⟩ := k0; exact DataW.trod_lt m _ _ _ hm
  obtain ⟨cs0, rfl⟩ := arg_agg Try.underlying25 (hval 0 25 v0 rfl rfl)
  obtain ⟨a0, w0⟩ := arg_open tSpace_opens h0
  have k1 := h1
  have lt1 : ∀ x ∈ p1, x.block < W.heap.size := by obtain ⟨m, hm⟩ := k1; exact DataW.trod_lt m _ _ _ hm
  obtain ⟨a1, rfl, rfl, rfl, w1⟩ := open_int Try.underlying3 (hval 1 3 v1 rfl rfl) h1
  have k2 := h2
  have lt2 : ∀ x ∈ p2, x.block < W.heap.size := by obtain ⟨m, hm⟩ := k2; exact DataW.trod_lt m _ _ _ hm
  obtain ⟨a2, rfl, rfl, rfl, w2⟩ := open_int Try.underlying3 (hval 2 3 v2 rfl rfl) h2
  clear hA0 hval0
  refine (walk W cs0 a0 w0 a1 (wf_bounds w1).1 (wf_bounds w1).2 a2 (wf_bounds w2).1 (wf_bounds w2).2).mono fun e W' ⟨he, hgro⟩ => ?_
  subst he
  have bel := hgro.below
  exact ⟨_, rfl, _, _, _, [], _, [], hW', trodAll_mk1 (shut_bool Try.underlying4 _), (trodAll_cons_mk (Below.trod laidOut (by kernel_rfl) (of_decide_eq_true (by kernel_rfl)) k0 bel lt0) (trodAll_cons_mk (Below.trod laidOut (by kernel_rfl) (of_decide_eq_true (by kernel_rfl)) k1 bel lt1) (trodAll_cons_mk (Below.trod laidOut (by kernel_rfl) (of_decide_eq_true (by kernel_rfl)) k2 bel lt2) trodAll_mk0))), rfl, bel.frame _, fun h => by cases h⟩
theorem over : Rows.fnExactNewProcessRow.holds Try.pinned (OpenSpec.ofChange Rows.fnExactNewProcessSpec) :=
  OpenClaim.holds_of_wide 5 Try.f5 rfl rfl rfl rfl rfl rfl rfl ⟨rfl, rfl, rfl, rfl, rfl⟩ rfl rfl rfl rfl rfl (by kernel_rfl) Try.func5 (by kernel_rfl)
    (of_decide_eq_true (by kernel_rfl)) (by unfold Func.isWrapper; first | (rw [if_pos (by decide +kernel)]; kernel_rfl) | (rw [if_neg (by decide +kernel)]; exact ⟨rfl, rfl⟩))
    (fun os started H enc _ => lifted os started H enc)
/-- THE STATEMENT -/
theorem proved : Rows.FnExactNewProcessSaid := over
#print axioms proved
end Go.Proofs.Ytfhcegblnhagjaa.fnExactNewProcess
