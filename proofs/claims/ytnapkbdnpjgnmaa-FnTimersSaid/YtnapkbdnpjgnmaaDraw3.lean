/-
  DRAW, PART 3: a drawn timer is a good one.
-/
import Derived.Test.YtnapkbdnpjgnmaaDraw
import Derived.Test.YtnapkbdnpjgnmaaTimerLaw
set_option linter.unusedVariables false
set_option linter.unusedSimpArgs false
namespace Go.Proofs.Ytnapkbdnpjgnmaa
open Go.RowKit
theorem ints_rows {w : World} : ∀ {xs : List Int}, (∀ x ∈ xs, I64 x) → Rows intT w (xs.map (Value.int .i64)) xs []
  | [], _ => ⟨rfl, rfl⟩
  | x :: xs, h => ⟨[.int .i64 x], xs.map (Value.int .i64), [], [], rfl, rfl, ⟨rfl, (h x List.mem_cons_self).1, (h x List.mem_cons_self).2, rfl⟩, ints_rows fun y hy => h y (List.mem_cons_of_mem _ hy)⟩
theorem ints_read {W : World} {e : TypeId} {cs : Array Value} {n g : Nat} (xs : List Int) (hcs : cs.toList = xs.map (Value.int .i64)) (hn : n = xs.length) (hg : g = W.heap.size) (hb : ∀ x ∈ xs, I64 x) (hl : xs.length ≤ 1000) : (intT.sl e).R (W.alloc (.cells cs e)) (W.alloc (.cells cs e)).heap.size [.slice (some ⟨g, 0, none⟩) n n] xs := by
  subst hn hg
  have h : (intT.sl e).O (W.alloc (.cells cs e)) [.slice (some ⟨W.heap.size, 0, none⟩) xs.length xs.length] xs (W.heap.size :: []) :=
    own_made (heap_alloc_new W _) (by rw [hcs]; exact ints_rows hb) (by omega)
  exact Ty.read _ h
/-- a box of four numbers -/
theorem box4 {W : World} {g : Nat} {a b c d : Value} {e : TypeId} (h : W.heap[g]? = some (.cells #[a, b, c, d] e (0, 0))) :
    W.cell? ⟨g, 0, none⟩ = some a ∧ W.cell? ⟨g, 1, none⟩ = some b ∧ W.cell? ⟨g, 2, none⟩ = some c ∧ W.cell? ⟨g, 3, none⟩ = some d ∧ (∀ j, W.frozen? ⟨g, j, none⟩ = false) := by
  refine ⟨?_, ?_, ?_, ?_, fun j => by simp [World.frozen?, h]⟩
  all_goals
    rw [cell_of_row W g _ _ _ (0, 0) h]
    rfl
theorem set4 {W : World} {g : Nat} {p q r s : Value} {e : TypeId} (h : W.heap[g]? = some (.cells #[p, q, r, s] e (0, 0))) (a b c d : Value) :
    ((((W.setCell ⟨g, 0, none⟩ a).setCell ⟨g, 1, none⟩ b).setCell ⟨g, 2, none⟩ c).setCell ⟨g, 3, none⟩ d).heap[g]? = some (.cells #[a, b, c, d] e (0, 0)) ∧ OnlyS [g] W ((((W.setCell ⟨g, 0, none⟩ a).setCell ⟨g, 1, none⟩ b).setCell ⟨g, 2, none⟩ c).setCell ⟨g, 3, none⟩ d) :=
  ⟨heap_setCell_at (heap_setCell_at (heap_setCell_at (heap_setCell_at h 0 a) 1 b) 2 c) 3 d, ((((OnlyS.refl _ _).setCell (p := ⟨g, 0, none⟩) (by simp) a).setCell (p := ⟨g, 1, none⟩) (by simp) b).setCell (p := ⟨g, 2, none⟩) (by simp) c).setCell (p := ⟨g, 3, none⟩) (by simp) d⟩
set_option maxRecDepth 100000 in
set_option maxHeartbeats 2000000 in
theorem timer_s {w W : World} {k : Nat} (hC : Cur w W k) : Calls Try.prog 35 #[.pointer (some ⟨k, 0, none⟩)] W fun e W' => ∃ t : DTimer, e = .returned (tmV t) ∧ timerOk t = true ∧ Gro w W' := by
  have hk := hC.lt
  have hlo := hC.lo
  have hI1 : ∀ x ∈ ([1, 1, 2, 3, 7, 50] : List Int), I64 x := by intro x hx; simp at hx; constructor <;> omega
  have hI2 : ∀ x ∈ ([0, 0, 1, 4] : List Int), I64 x := by intro x hx; simp at hx; constructor <;> omega
  go_enter Try.func35, Try.ntmps35
  go_wp2_with (fail)
  refine (pick_s (hC.more (by repeat (first | with_reducible exact Gro.refl _ | with_reducible exact Gro.refl_drew _ _ _ | with_reducible exact Gro.refl_drewN _ _ _ _ | assumption | with_reducible apply Gro.more | with_reducible apply Gro.alloc | with_reducible apply Gro.drew | with_reducible apply Gro.drewN))) (ints_read [1, 1, 2, 3, 7, 50] rfl rfl (by simp) hI1 (by decide)) (fun ad h => by injection h with h; subst h; simp; omega) (by decide) (by decide)).mono ?_
  rintro e W1 ⟨x1, rfl, hx1, hC1, hS1⟩
  go_wp2_with (fail)
  refine (pick_s (hC1.more (by repeat (first | with_reducible exact Gro.refl _ | with_reducible exact Gro.refl_drew _ _ _ | with_reducible exact Gro.refl_drewN _ _ _ _ | assumption | with_reducible apply Gro.more | with_reducible apply Gro.alloc | with_reducible apply Gro.drew | with_reducible apply Gro.drewN))) (ints_read [0, 0, 1, 4] rfl rfl (by simp) hI2 (by decide)) (fun ad h => by injection h with h; subst h; have := hC1.lt; simp; omega) (by decide) (by decide)).mono ?_
  rintro e W2 ⟨x2, rfl, hx2, hC2, hS2⟩
  go_wp2_with (fail)
  refine (below_s hC2 65536 (by decide) (by decide)).mono ?_
  rintro e W3 ⟨x3, rfl, hx3, hC3, hS3⟩
  have hp1 : 1 ≤ x1 ∧ x1 ≤ 50 := by simp at hx1; omega
  have hp2 : 0 ≤ x2 ∧ x2 ≤ 4 := by simp at hx2; omega
  have hok : timerOk ⟨x1, x2, x1, x3⟩ = true := timerOk_mk ⟨hp1.1, by simp only; omega, hp2.1, by simp only; omega, hp1.1, by simp only; omega, by simp only; omega, by simp only; omega⟩
  have HN := Lib.hid (show newTimer x1 x2 x3 = (⟨x1, x2, x1, x3⟩, true) from by unfold newTimer; rw [if_pos hok])
  go_wp2_with (fail)
  refine (newTimer_s _ _ _ _).mono ?_
  rw [HN.out]
  rintro e W4 ⟨rfl, os4, d4, rfl⟩
  go_wp2_with (fail)
  refine (below_s (hC3.more (by repeat (first | with_reducible exact Gro.refl _ | with_reducible exact Gro.refl_drew _ _ _ | with_reducible exact Gro.refl_drewN _ _ _ _ | assumption | with_reducible apply Gro.more | with_reducible apply Gro.alloc | with_reducible apply Gro.drew | with_reducible apply Gro.drewN))) 9 (by decide) (by decide)).mono ?_
  rintro e W6 ⟨x6, rfl, hx6, hC6, hS6⟩
  have hkz : W.heap.size ≠ k := by omega
  have e1 : W1.heap[W.heap.size]? = some (.cells #[.int .i64 0, .int .i64 0, .int .i64 0, .int .i64 0] 38 (0, 0)) := (hS1.block W.heap.size (by simp; omega) (by simp; omega)).trans (((Gro.refl _).alloc _).block (by simp; try omega) |>.trans (heap_alloc_new W _))
  have z1 := hC1.lt
  have q1 := hS1.size
  have q2 := hS2.size
  have q3 := hS3.size
  have q6 := hS6.size
  simp at q1 q2 q6
  have e2 := ((hS2.block W.heap.size (by simp; omega) (by simp; omega)).trans (((Gro.refl W1).alloc _).block (by omega))).trans e1
  have e3 := (hS3.block W.heap.size (by omega) (by simp; omega)).trans e2
  have e6 := ((hS6.block W.heap.size (by simp; omega) (by simp; omega)).trans ((((Gro.refl W3).more os4 d4).alloc _).block (by omega))).trans e3
  have hk3 := hC3.lt
  have f6 := (hS6.block (W3.heap.size + os4.size) (by simp) (by simp; omega)).trans (new_blk _ _)
  have hG6 := hC6.gro
  clear e1 e2 e3
  go_wp2_with (fail)
  go_loopw [5] (fun b wr => ∃ (j : Nat) (t : DTimer), b = .int .i64 j ∧ j ≤ 8 ∧ Hid (timerOk t = true) ∧ Hid (Gro w wr) ∧ Hid (wr.heap[W.heap.size]? = some (.cells #[.int .i64 0, .int .i64 0, .int .i64 0, .int .i64 0] 38 (0, 0))) ∧ Hid (wr.heap[W3.heap.size + os4.size]? = some (.cells #[.int .i64 t.Period, .int .i64 t.Spread, .int .i64 t.Left, .int .i64 t.State] 38 (0, 0)))) (fun b _ => (intOf b).toNat)
  case atStart => exact ⟨x6, ⟨x1, x2, x1, x3⟩, rfl, by omega, Lib.hid hok, Lib.hid hG6, Lib.hid e6, Lib.hid f6⟩
  case round =>
    obtain ⟨j, t, rfl, hj8, hto, hG, hz, hb⟩ := hrel
    obtain ⟨c0, c1, c2, c3, cf⟩ := box4 hb.out
    obtain ⟨y0, y1, y2, y3, yf⟩ := box4 hz.out
    have cf0 := cf 0
    have cf1 := cf 1
    have cf2 := cf 2
    have cf3 := cf 3
    have yf0 := yf 0
    have yf1 := yf 1
    have yf2 := yf 2
    have yf3 := yf 3
    have hbl : W3.heap.size + os4.size < wr.heap.size := (Array.getElem?_eq_some_iff.1 hb.out).1
    clear cf yf
    by_cases hlt : 0 < j
    · obtain ⟨u, f, hu⟩ : ∃ u f, tick t = (u, f) := ⟨_, _, rfl⟩
      have HU := Lib.hid hu
      have HK := Lib.hid (show timerOk u = true from by have := (tick_keeps hto.out).1; rw [hu] at this; exact this)
      clear hu
      go_wp2_with (fail)
      refine (tick_s t _).mono ?_
      rw [HU.out]
      rintro e W7 ⟨rfl, os7, d7, rfl⟩
      go_wp2_with (fail)
      go_roundw
      case measure => simp [intOf]; omega
      case rel =>
        have h4 := set4 hb.out (.int .i64 u.Period) (.int .i64 u.Spread) (.int .i64 u.Left) (.int .i64 u.State)
        have hz4 := h4.2.size
        refine ⟨j - 1, u, by go_num, by omega, HK, Lib.hid ((h4.2.gro hG.out (fun b hb => by simp at hb; omega)).more _ _), Lib.hid ?_, Lib.hid ?_⟩
        · exact (gro_get _ _ _ (by omega)).trans ((h4.2.block W.heap.size (by omega) (by simp; omega)).trans hz.out)
        · exact (gro_get _ _ _ (by omega)).trans h4.1
    · obtain rfl : j = 0 := by omega
      have hne : W.heap.size ≠ W3.heap.size + os4.size := by omega
      go_wp2_with (fail)
      have h4 := set4 hz.out (.int .i64 t.Period) (.int .i64 t.Spread) (.int .i64 t.Left) (.int .i64 t.State)
      have ha := box4 h4.1
      refine bodyPost_ret (v := tmV t) (by simp [results, Try.results35, go_sem, ha]) rfl ⟨t, rfl, hto.out, h4.2.gro hG.out (fun b hb => by simp at hb; omega)⟩
set_option maxRecDepth 100000 in
theorem drawTimer_s {w : World} {A : Option Addr} {n c : Nat} {xs : List UInt8} (hx : (byteT.sl 5).R w w.heap.size [.slice A n c] xs) (hl : xs.length ≤ 1099511627776) : Calls Try.prog 16 #[.slice A n c] w fun e W' => ∃ t : DTimer, e = .returned (tmV t) ∧ timerOk t = true ∧ Gro w W' := by
  go_enter Try.func16, Try.ntmps16
  go_wp2_with (fail)
  refine (new_s (Ty.up _ hx (by repeat (first | with_reducible exact Gro.refl _ | with_reducible exact Gro.refl_drew _ _ _ | with_reducible exact Gro.refl_drewN _ _ _ _ | assumption | with_reducible apply Gro.more | with_reducible apply Gro.alloc | with_reducible apply Gro.drew | with_reducible apply Gro.drewN))) hl).mono ?_
  rintro e W1 ⟨k, rfl, hC1⟩
  go_wp2_with (fail)
  refine (timer_s hC1).mono ?_
  rintro e W2 ⟨t, rfl, hto, hG⟩
  have hz := (hG.block (k := w.heap.size) (by simp)).trans (heap_alloc_new w _)
  have hb := box4 hz
  have y0 := hb.1
  have y1 := hb.2.1
  have y2 := hb.2.2.1
  have y3 := hb.2.2.2.1
  have yf0 := hb.2.2.2.2 0
  have yf1 := hb.2.2.2.2 1
  have yf2 := hb.2.2.2.2 2
  have yf3 := hb.2.2.2.2 3
  clear hb
  go_wp2_with (fail)
  have h4 := set4 hz (.int .i64 t.Period) (.int .i64 t.Spread) (.int .i64 t.Left) (.int .i64 t.State)
  have ha := box4 h4.1
  have hG0 : Gro w W2 := ((Gro.refl w).alloc _).trans hG
  exact bodyPost_ret (v := tmV t) (by simp [results, Try.results16, go_sem, ha]) rfl ⟨t, rfl, hto, h4.2.gro hG0 (fun b hb => by simp at hb; omega)⟩
end Go.Proofs.Ytnapkbdnpjgnmaa
