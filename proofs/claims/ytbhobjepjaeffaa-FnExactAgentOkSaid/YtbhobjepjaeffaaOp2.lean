/-
  OP, PART 2: DecodeOp of the program.
-/
import Derived.Test.YtbhobjepjaeffaaOp
import Derived.Test.YtbhobjepjaeffaaOwn
import Derived.Test.YtbhobjepjaeffaaBoxes
import Derived.Deep.RegionHeld3
import Derived.BigQuiet
import Derived.BigRegion
set_option linter.unusedVariables false
set_option linter.unusedSimpArgs false
namespace Go.Proofs.Ytbhobjepjaeffaa
open Go.RowKit
def RetOp (r : OpR) (w : World) (e : Ending) (w' : World) : Prop := e = .returned (.tuple #[.agg #[.int .i64 r.code, .int .i64 r.arg], .int .i64 r.n, .bool r.ok]) ∧ Gro w w'
theorem ret_op {r q : OpR} (h : r = q) {w w' : World} (hG : Gro w w') : RetOp r w (.returned (.tuple #[.agg #[.int .i64 q.code, .int .i64 q.arg], .int .i64 q.n, .bool q.ok])) w' := by
  subst h
  exact ⟨rfl, hG⟩
theorem or8_step {m j b : Nat} (hb : b < 256) (hj : j < 4) (hm : m < 256 ^ j) : bits .or .i64 (m : Int) (wrap64 ((b : Int) * 2 ^ (8 * j))) = ((m + b * 256 ^ j : Nat) : Int) := by
  have hp : 256 ^ (j + 1) ≤ 4294967296 := by
    have h := Nat.pow_le_pow_right (show 0 < 256 by omega) (show j + 1 ≤ 4 by omega)
    exact h
  have hmul : b * 256 ^ j ≤ 255 * 256 ^ j := Nat.mul_le_mul_right _ (by omega)
  have hs : (256 : Nat) ^ (j + 1) = 256 * 256 ^ j := by rw [Nat.pow_succ, Nat.mul_comm]
  have e0 : (2 : Int) ^ (8 * j) = ((256 ^ j : Nat) : Int) := by
    rw [Int.pow_mul, show (2 : Int) ^ 8 = ((256 : Nat) : Int) from by decide]
    exact (Int.natCast_pow 256 j).symm
  have e1 : ((b : Int) * 2 ^ (8 * j)) = ((b * 256 ^ j : Nat) : Int) := by rw [e0, ← Int.natCast_mul]
  have e2 : wrap64 ((b * 256 ^ j : Nat) : Int) = ((b * 256 ^ j : Nat) : Int) := wrap64_small (by omega) (by omega)
  rw [e1, e2, bits_or_comm, bits_join .i64 62 (by decide) wraps_i64 (8 * j) _ _ (by omega) (by rw [e0]; norm_cast; exact Nat.mul_mod_left _ _) (by norm_cast; omega) (by omega) (by rw [e0]; exact_mod_cast hm) (by norm_cast; omega)]
  omega
/-- the cell of a box of two set anew -/
theorem set2b {W : World} {g : Nat} {p q : Value} {e : TypeId} (h : W.heap[g]? = some (.cells #[p, q] e (0, 0))) (b : Value) : (W.setCell ⟨g, 1, none⟩ b).heap[g]? = some (.cells #[p, b] e (0, 0)) ∧ OnlyS [g] W (W.setCell ⟨g, 1, none⟩ b) :=
  ⟨heap_setCell_at h 1 b, (OnlyS.refl _ _).setCell (p := ⟨g, 1, none⟩) (by simp) b⟩
theorem set2a {W : World} {g : Nat} {p q : Value} {e : TypeId} (h : W.heap[g]? = some (.cells #[p, q] e (0, 0))) (b : Value) : (W.setCell ⟨g, 0, none⟩ b).heap[g]? = some (.cells #[b, q] e (0, 0)) ∧ OnlyS [g] W (W.setCell ⟨g, 0, none⟩ b) :=
  ⟨heap_setCell_at h 0 b, (OnlyS.refl _ _).setCell (p := ⟨g, 0, none⟩) (by simp) b⟩
set_option maxRecDepth 100000 in
set_option maxHeartbeats 4000000 in
theorem decodeOp_i (s : ByteArray) (a : Int) (w : World) (hs : s.size ≤ 1099511627776) (ha : I64 a) : Calls Try.prog 131 #[.string s, .int .i64 a] w (RetOp (decOp s a) w) := by
  obtain ⟨ha1, ha2⟩ := ha
  cases hb : btw a 0 ((s.size : Int) - 1)
  · have HD := Lib.hid (decOp_no (s := s) (a := a) (fun h => by rw [btw_mk (by omega) (by omega)] at hb; cases hb))
    have HB := Lib.hid hb
    clear hb
    go_enter Try.func131, Try.ntmps131
    go_wp2_with (go_at_call 48; (with_reducible refine (in_i _ _ _ _).mono ?_); rw [HB.out]; rintro e w1 ⟨rfl, rfl⟩)
    exact bodyPost_ret (v := .tuple #[.agg #[.int .i64 0, .int .i64 0], .int .i64 0, .bool false]) (by simp [results, Try.results131, go_sem]) rfl (ret_op (q := ⟨0, 0, 0, false⟩) HD.out (by repeat (first | with_reducible exact Gro.refl _ | with_reducible exact Gro.refl_drew _ _ _ | with_reducible exact Gro.refl_drewN _ _ _ _ | assumption | with_reducible apply Gro.more | with_reducible apply Gro.alloc | with_reducible apply Gro.drew | with_reducible apply Gro.drewN)))
  · obtain ⟨hb1, hb2⟩ := btw_iff.1 hb
    have HB := Lib.hid hb
    clear hb
    obtain ⟨a, rfl⟩ := Int.eq_ofNat_of_zero_le hb1
    have hlt : a < s.size := by omega
    have hbn := byteN_get hlt
    obtain ⟨c, hc⟩ : ∃ c, byteN s a = c := ⟨_, rfl⟩
    have hc255 : c < 256 := hc ▸ byteN_lt s a
    rw [hc] at hbn
    have hx0 : 0 ≤ (s[a].toNat : Int) ∧ (s[a].toNat : Int) ≤ 255 := by omega
    by_cases hc17 : c ≤ 17
    case neg =>
      have HD := Lib.hid (decOp_no (s := s) (a := (a : Int)) (fun h => by rw [Int.toNat_natCast, hc] at h; exact hc17 h.2.2.1))
      have HZ := Lib.hid (show opSize (s[a].toNat : Int) = 0 from by rw [← hbn, opSize_def, if_neg (by simp [btw]; omega)])
      go_enter Try.func131, Try.ntmps131
      go_wp2_with (first
        | (go_at_call 48; (with_reducible refine (in_i _ _ _ _).mono ?_); rw [HB.out]; rintro e w1 ⟨rfl, rfl⟩)
        | (go_at_call 152; (with_reducible refine (opSize_i _ _).mono ?_); rw [HZ.out]; rintro e w1 ⟨rfl, rfl⟩))
      exact bodyPost_ret (v := .tuple #[.agg #[.int .i64 0, .int .i64 0], .int .i64 0, .bool false]) (by simp [results, Try.results131, go_sem]) rfl (ret_op (q := ⟨0, 0, 0, false⟩) HD.out (by repeat (first | with_reducible exact Gro.refl _ | with_reducible exact Gro.refl_drew _ _ _ | with_reducible exact Gro.refl_drewN _ _ _ _ | assumption | with_reducible apply Gro.more | with_reducible apply Gro.alloc | with_reducible apply Gro.drew | with_reducible apply Gro.drewN)))
    obtain ⟨n, sg, hw⟩ : ∃ n sg, opW (c : Int) = (n, sg) := ⟨_, _, rfl⟩
    have hcs := opW_cases (c : Int)
    rw [hw] at hcs
    have hn4 : n ≤ 4 := by have := opW_le (c : Int); rw [hw] at this; exact this
    have HZ := Lib.hid (show opSize (s[a].toNat : Int) = (n : Int) + 1 from by rw [← hbn, opSize_def, if_pos (btw_mk (by omega) (by omega)), hw])
    have HW := Lib.hid (show opW (s[a].toNat : Int) = (n, sg) from by rw [← hbn]; exact hw)
    by_cases hfit : a + 1 + n ≤ s.size
    case neg =>
      have HD := Lib.hid (decOp_no (s := s) (a := (a : Int)) (fun h => by rw [Int.toNat_natCast, hc, hw] at h; exact hfit h.2.2.2))
      have hg1 : ((n : Int) + 1 == 0) = false := by simp; omega
      have hg2 : decide ((s.size : Int) < (a : Int) + ((n : Int) + 1)) = true := decide_eq_true (by omega)
      clear hw hc hbn
      go_enter Try.func131, Try.ntmps131
      go_wp2_with (first
        | (go_at_call 48; (with_reducible refine (in_i _ _ _ _).mono ?_); rw [HB.out]; rintro e w1 ⟨rfl, rfl⟩)
        | (go_at_call 152; (with_reducible refine (opSize_i _ _).mono ?_); rw [HZ.out]; rintro e w1 ⟨rfl, rfl⟩))
      exact bodyPost_ret (v := .tuple #[.agg #[.int .i64 0, .int .i64 0], .int .i64 0, .bool false]) (by simp [results, Try.results131, go_sem]) rfl (ret_op (q := ⟨0, 0, 0, false⟩) HD.out (by repeat (first | with_reducible exact Gro.refl _ | with_reducible exact Gro.refl_drew _ _ _ | with_reducible exact Gro.refl_drewN _ _ _ _ | assumption | with_reducible apply Gro.more | with_reducible apply Gro.alloc | with_reducible apply Gro.drew | with_reducible apply Gro.drewN)))
    have HD := Lib.hid (decOp_yes hlt hc hc17 hw hfit)
    have hg1 : ((n : Int) + 1 == 0) = false := by simp; omega
    have hg2 : decide ((s.size : Int) < (a : Int) + ((n : Int) + 1)) = false := decide_eq_false (by omega)
    clear hw hc
    go_enter Try.func131, Try.ntmps131
    go_wp2_with (first
      | (go_at_call 48; (with_reducible refine (in_i _ _ _ _).mono ?_); rw [HB.out]; rintro e w1 ⟨rfl, rfl⟩)
      | (go_at_call 152; (with_reducible refine (opSize_i _ _).mono ?_); rw [HZ.out]; rintro e w1 ⟨rfl, rfl⟩)
      | (go_at_call 153; (with_reducible refine (argument_i _ _).mono ?_); rw [HW.out]; rintro e w1 ⟨rfl, rfl⟩))
    have hG : Gro w ((w.alloc (.cells #[.int .i64 0, .int .i64 0] 166)).alloc (.cells #[.int .i64 (s[a].toNat : Int), .int .i64 0] 166)) := (by repeat (first | with_reducible exact Gro.refl _ | with_reducible exact Gro.refl_drew _ _ _ | with_reducible exact Gro.refl_drewN _ _ _ _ | assumption | with_reducible apply Gro.more | with_reducible apply Gro.alloc | with_reducible apply Gro.drew | with_reducible apply Gro.drewN))
    have er : ((w.alloc (.cells #[.int .i64 0, .int .i64 0] 166)).alloc (.cells #[.int .i64 (s[a].toNat : Int), .int .i64 0] 166)).heap[w.heap.size]? = some (.cells #[.int .i64 0, .int .i64 0] 166 (0, 0)) := grow_blk (heap_alloc_new w _) (by (repeat (first | with_reducible exact Gro.refl _ | with_reducible exact Gro.refl_drew _ _ _ | with_reducible exact Gro.refl_drewN _ _ _ _ | assumption | with_reducible apply Gro.more | with_reducible apply Gro.alloc | with_reducible apply Gro.drew | with_reducible apply Gro.drewN)); done)
    have ex : ((w.alloc (.cells #[.int .i64 0, .int .i64 0] 166)).alloc (.cells #[.int .i64 (s[a].toNat : Int), .int .i64 0] 166)).heap[w.heap.size + 1]? = some (.cells #[.int .i64 (s[a].toNat : Int), .int .i64 0] 166 (0, 0)) := by
      have h := heap_alloc_new (w.alloc (.cells #[.int .i64 0, .int .i64 0] 166)) (.cells #[.int .i64 (s[a].toNat : Int), .int .i64 0] 166)
      rw [World.size_alloc] at h
      exact h
    obtain ⟨g, hg⟩ : ∃ g, w.heap.size = g := ⟨_, rfl⟩
    rw [hg] at er ex ⊢
    generalize ((w.alloc (.cells #[.int .i64 0, .int .i64 0] 166)).alloc (.cells #[.int .i64 (s[a].toNat : Int), .int .i64 0] 166)) = Y at hG er ex ⊢
    go_loopw [11] (fun x wr => ∃ (j : Nat), x = .int .i64 j ∧ j ≤ n ∧ Hid (wr.heap[g + 1]? = some (.cells #[.int .i64 (s[a].toNat : Int), .int .i64 (argU s (a + 1) j : Nat)] 166 (0, 0))) ∧ Hid (wr.heap[g]? = some (.cells #[.int .i64 0, .int .i64 0] 166 (0, 0))) ∧ Hid (Gro w wr)) (fun x _ => n - (intOf x).toNat)
    case atStart => exact ⟨0, rfl, by omega, Lib.hid ex, Lib.hid er, Lib.hid hG⟩
    case round =>
      clear hG er ex
      obtain ⟨j, rfl, hj, hx, hr, hG⟩ := hrel
      obtain ⟨x0, x1, xf0, xf1, xl⟩ := box2 hx.out
      by_cases hjn : j < n
      · have hin : a + 1 + j < s.size := by omega
        have hb := byteN_get hin
        have hb2 : 0 ≤ (s[a + 1 + j].toNat : Int) ∧ (s[a + 1 + j].toNat : Int) ≤ 255 := by have := s[a + 1 + j].toNat_lt; omega
        have hul := argU_lt s (a + 1) j
        have hor := or8_step (m := argU s (a + 1) j) (j := j) (b := s[a + 1 + j].toNat) (by omega) (by omega) hul
        have hun : argU s (a + 1) j + s[a + 1 + j].toNat * 256 ^ j = argU s (a + 1) (j + 1) := by rw [argU, hb]
        rw [hun] at hor
        have hul2 : argU s (a + 1) j < 4294967296 := Nat.lt_of_lt_of_le hul (Nat.pow_le_pow_right (by omega) (show j ≤ 4 by omega))
        obtain ⟨u, hu⟩ : ∃ u, argU s (a + 1) j = u := ⟨_, rfl⟩
        obtain ⟨v, hv⟩ : ∃ v, argU s (a + 1) (j + 1) = v := ⟨_, rfl⟩
        rw [hu] at hor x1 hul2
        rw [hv] at hor
        have HV := Lib.hid hv
        clear hul hun hb hu hv
        have hjn2 : (j : Int) < (n : Int) := by omega
        have w1 : IntKind.i64.wrap ((a : Int) + 1) = (a : Int) + 1 := IntWalk.i64_in _ (by omega)
        have w2 : IntKind.i64.wrap ((a : Int) + 1 + j) = (a : Int) + 1 + j := IntWalk.i64_in _ (by omega)
        have w3 : (0 : Int) ≤ (a : Int) + 1 + j := by omega
        have w4 : (a : Int) + 1 + j < s.size := by omega
        go_wp2_with (fail)
        go_region
        go_wp2_with (fail)
        have h2 := set2b hx.out (.int .i64 v)
        go_roundw
        case measure => (simp [intOf]; try omega)
        case rel => exact ⟨j + 1, by go_num, by omega, Lib.hid (by rw [HV.out]; exact h2.1), Lib.hid ((h2.2.block g (by omega) (by simp)).trans hr.out), Lib.hid ((h2.2.gro hG.out (fun b hb => by simp at hb; omega)).drew)⟩
      · obtain rfl : j = n := by omega
        have hul := argU_lt s (a + 1) j
        obtain ⟨u, hu⟩ : ∃ u, argU s (a + 1) j = u := ⟨_, rfl⟩
        rw [hu] at hul x1 HD
        have h0 := hr.out
        have hxo := hx.out
        rw [hu] at hxo
        clear hx hr
        obtain ⟨r0, r1, rf0, rf1, rl⟩ := box2 h0
        have hsg : (sg = true ∧ 2 ^ (8 * j - 1) ≤ u) ∨ ¬ (sg = true ∧ 2 ^ (8 * j - 1) ≤ u) := Classical.em _
        clear hu HB HZ HW hfit hg1 hg2
        rcases hsg with hsg | hsg
        · have hdd : decOp s (a : Int) = ⟨(c : Int), (u : Int) - 2 ^ (8 * j), j + 1, true⟩ := by rw [HD.out]; unfold argS; rw [if_pos hsg]
          have HQ := Lib.hid hdd
          obtain ⟨rfl, hsg⟩ := hsg
          clear hdd HD
          simp only [Prod.mk.injEq, Bool.true_eq_false, and_true, and_false, or_false, false_or] at hcs
          rcases hcs with rfl | rfl
          · skip
            have hge : (2147483648 : Int) ≤ (u : Int) := by simp at hsg; omega
            have hul3 : (u : Int) < 4294967296 := by simp at hul; omega
            have hw1 : IntKind.i64.wrap ((u : Int) - 4294967296) = (u : Int) - 4294967296 := IntWalk.i64_in _ ⟨by omega, by omega⟩
            clear hul hsg
            go_wp2_with (fail)
            go_region
            go_wp2_with (fail)
            go_region
            go_wp2_with (fail)
            have hk := set2b hxo (.int .i64 ((u : Int) - 4294967296))
            have h1 := (hk.2.block g (by omega) (by simp)).trans h0
            have h2 := set2 h1 (.int .i64 (s[a].toNat : Int)) (.int .i64 ((u : Int) - 4294967296))
            have hz := box2 h2.1
            refine bodyPost_ret (v := .tuple #[.agg #[.int .i64 (s[a].toNat : Int), .int .i64 ((u : Int) - 4294967296)], .int .i64 ((4 + 1 : Nat) : Int), .bool true]) (by simp [results, Try.results131, go_sem, hz, rl]) rfl ?_
            exact ret_op (q := ⟨(s[a].toNat : Int), (u : Int) - 4294967296, 4 + 1, true⟩) (by rw [HQ.out, hbn]; try rfl) ((h2.2.gro (hk.2.gro hG.out (fun b hb => by simp at hb; omega)) (fun b hb => by simp at hb; omega)).trans (by (repeat (first | with_reducible exact Gro.refl _ | with_reducible exact Gro.refl_drew _ _ _ | with_reducible exact Gro.refl_drewN _ _ _ _ | assumption | with_reducible apply Gro.more | with_reducible apply Gro.alloc | with_reducible apply Gro.drew | with_reducible apply Gro.drewN)); done))
          · skip
            have hge : (32768 : Int) ≤ (u : Int) := by simp at hsg; omega
            have hul3 : (u : Int) < 65536 := by simp at hul; omega
            have hw1 : IntKind.i64.wrap ((u : Int) - 65536) = (u : Int) - 65536 := IntWalk.i64_in _ ⟨by omega, by omega⟩
            clear hul hsg
            go_wp2_with (fail)
            go_region
            go_wp2_with (fail)
            go_region
            go_wp2_with (fail)
            have hk := set2b hxo (.int .i64 ((u : Int) - 65536))
            have h1 := (hk.2.block g (by omega) (by simp)).trans h0
            have h2 := set2 h1 (.int .i64 (s[a].toNat : Int)) (.int .i64 ((u : Int) - 65536))
            have hz := box2 h2.1
            refine bodyPost_ret (v := .tuple #[.agg #[.int .i64 (s[a].toNat : Int), .int .i64 ((u : Int) - 65536)], .int .i64 ((2 + 1 : Nat) : Int), .bool true]) (by simp [results, Try.results131, go_sem, hz, rl]) rfl ?_
            exact ret_op (q := ⟨(s[a].toNat : Int), (u : Int) - 65536, 2 + 1, true⟩) (by rw [HQ.out, hbn]; try rfl) ((h2.2.gro (hk.2.gro hG.out (fun b hb => by simp at hb; omega)) (fun b hb => by simp at hb; omega)).trans (by (repeat (first | with_reducible exact Gro.refl _ | with_reducible exact Gro.refl_drew _ _ _ | with_reducible exact Gro.refl_drewN _ _ _ _ | assumption | with_reducible apply Gro.more | with_reducible apply Gro.alloc | with_reducible apply Gro.drew | with_reducible apply Gro.drewN)); done))
        · have hdd : decOp s (a : Int) = ⟨(c : Int), (u : Int), j + 1, true⟩ := by rw [HD.out]; unfold argS; rw [if_neg hsg]
          have HQ := Lib.hid hdd
          clear hdd HD
          cases sg with
          | false =>
            clear hsg hcs hul
            go_wp2_with (fail)
            go_region
            go_wp2_with (fail)
            have h2 := set2 h0 (.int .i64 (s[a].toNat : Int)) (.int .i64 ((u : Int)))
            have hz := box2 h2.1
            refine bodyPost_ret (v := .tuple #[.agg #[.int .i64 (s[a].toNat : Int), .int .i64 ((u : Int))], .int .i64 ((j + 1 : Nat) : Int), .bool true]) (by simp [results, Try.results131, go_sem, hz, rl]) rfl ?_
            exact ret_op (q := ⟨(s[a].toNat : Int), (u : Int), j + 1, true⟩) (by rw [HQ.out, hbn]; try rfl) ((h2.2.gro hG.out (fun b hb => by simp at hb; omega)).trans (by (repeat (first | with_reducible exact Gro.refl _ | with_reducible exact Gro.refl_drew _ _ _ | with_reducible exact Gro.refl_drewN _ _ _ _ | assumption | with_reducible apply Gro.more | with_reducible apply Gro.alloc | with_reducible apply Gro.drew | with_reducible apply Gro.drewN)); done))
          | true =>
            have hlt2 : ¬ 2 ^ (8 * j - 1) ≤ u := fun h => hsg ⟨rfl, h⟩
            simp only [Prod.mk.injEq, Bool.true_eq_false, and_true, and_false, or_false, false_or] at hcs
            rcases hcs with rfl | rfl
            · have hge : decide ((2147483648 : Int) ≤ (u : Int)) = false := decide_eq_false (by simp at hlt2; omega)
              clear hsg hlt2 hul
              go_wp2_with (fail)
              go_region
              go_wp2_with (fail)
              have h2 := set2 h0 (.int .i64 (s[a].toNat : Int)) (.int .i64 ((u : Int)))
              have hz := box2 h2.1
              refine bodyPost_ret (v := .tuple #[.agg #[.int .i64 (s[a].toNat : Int), .int .i64 ((u : Int))], .int .i64 ((4 + 1 : Nat) : Int), .bool true]) (by simp [results, Try.results131, go_sem, hz, rl]) rfl ?_
              exact ret_op (q := ⟨(s[a].toNat : Int), (u : Int), 4 + 1, true⟩) (by rw [HQ.out, hbn]; try rfl) ((h2.2.gro hG.out (fun b hb => by simp at hb; omega)).trans (by (repeat (first | with_reducible exact Gro.refl _ | with_reducible exact Gro.refl_drew _ _ _ | with_reducible exact Gro.refl_drewN _ _ _ _ | assumption | with_reducible apply Gro.more | with_reducible apply Gro.alloc | with_reducible apply Gro.drew | with_reducible apply Gro.drewN)); done))
            · have hge : decide ((32768 : Int) ≤ (u : Int)) = false := decide_eq_false (by simp at hlt2; omega)
              clear hsg hlt2 hul
              go_wp2_with (fail)
              go_region
              go_wp2_with (fail)
              have h2 := set2 h0 (.int .i64 (s[a].toNat : Int)) (.int .i64 ((u : Int)))
              have hz := box2 h2.1
              refine bodyPost_ret (v := .tuple #[.agg #[.int .i64 (s[a].toNat : Int), .int .i64 ((u : Int))], .int .i64 ((2 + 1 : Nat) : Int), .bool true]) (by simp [results, Try.results131, go_sem, hz, rl]) rfl ?_
              exact ret_op (q := ⟨(s[a].toNat : Int), (u : Int), 2 + 1, true⟩) (by rw [HQ.out, hbn]; try rfl) ((h2.2.gro hG.out (fun b hb => by simp at hb; omega)).trans (by (repeat (first | with_reducible exact Gro.refl _ | with_reducible exact Gro.refl_drew _ _ _ | with_reducible exact Gro.refl_drewN _ _ _ _ | assumption | with_reducible apply Gro.more | with_reducible apply Gro.alloc | with_reducible apply Gro.drew | with_reducible apply Gro.drewN)); done))
end Go.Proofs.Ytbhobjepjaeffaa
